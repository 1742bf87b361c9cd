/- Plain law: numbers of few bytes, as the program has them. Own work. -/
import Derived.Test.YthkgkalebkbndaaGreatDoorLawB
import Derived.Test.YthkgkalebkbndaaGreatDoorRbJ
set_option autoImplicit false
set_option linter.unusedVariables false
set_option linter.unusedSimpArgs false
open Bool renaming false_eq_true->AE,not_true->Br,true_and->Bd
open Go.IntKind renaming i64->Aa,u64->Ae,u8->Ah
open Int renaming toNat_natCast->Ac,toNat_of_nonneg->A2
open List renaming append_assoc->Al,drop_eq_getElem_cons->A7,drop_eq_nil_iff->C0,drop_length->EM,drop_replicate->FT,drop_zero->Dk,ext_getElem->Bm,filter_append->DR,filter_eq_self->FS,foldl_append->Cy,foldl_cons->BK,foldl_nil->GH,getD_cons_succ->FR,getElem?_eq_getElem->Ax,getElem_map->Bj,getElem_mem->Aj,getElem_of_eq->Dj,getElem_range->BT,getElem_set->Ee,getElem_take->CH,length_append->Ap,length_drop->AM,length_replicate->Cq,length_singleton->AZ,length_take->AC,map_congr_left->C8,mem_append->Ao,mem_cons_of_mem->Ar,mem_map->Bu,mem_of_mem_drop->Bf,mem_of_mem_take->Bk,nil_append->EP,range->AA,replicate->Ag,replicate_succ->Cf,take_left'->DK,take_length->Aq,take_of_length_le->AN,take_succ_eq_append_getElem->Am
open Nat renaming add_comm->D0,add_mul->Bi,add_zero->CC,and_one_is_mod->DU,div_add_mod->GI,div_le_self->D6,eq_zero_or_pos->Cm,le_refl->Av,lt_or_ge->AY,mod_eq_of_lt->C5,mod_lt->Gm,mul_comm->BM,mul_le_mul->DJ,mul_le_mul_left->Dg,mul_le_mul_right->An,one_mul->CA,pow_le_pow_right->Bn,pow_succ->BL,strongRecOn->DH,sub_self->CV,sub_zero->Jl,zero_mul->EA
open Option renaming bind_some->Ab
open Option.some renaming inj->Ai
namespace Go.Rb.R5
open Go.Rb
theorem a0p:room=140737488355328:=rfl
def a1h(b:List Int):Prop:=∀x,x∈b→0≤x∧x≤255
theorem a1h.get{b:List Int}(h:a1h b){i:Nat}(hi:i<b.length):∃c:Nat,b.getD i 0=(c:Int)∧c<256∧b[i]=(c:Int):=by
 have:=h _ (Aj hi);exact⟨b[i].toNat,by rw[a0c hi];omega,by omega,by omega⟩
theorem a6u{n v:Nat}(hv:v<18446744073709551616)(hn:10≤n):a6s n ((v:Int),())=some ((putN v,()),()):=by
 unfold a6s;refine(a8m (I:=fun k (s:Int×List Int)=>∃v:Nat,s.1=(v:Int)∧v<128 ^ (k+1)∧v<18446744073709551616∧s.2.length+k≤1000)
  (res:=fun s=>some ((s.2++putN s.1.toNat,()),())) ?_ n 9 _ ⟨v,rfl,by omega,hv,by simp⟩ (by omega)).trans (by simp)
 rintro k ⟨a,acc⟩ rec ⟨v,rfl,h1,h2,h3⟩ hrec;dsimp only at h3;have hr:=a0p;have hm:Ah.wrap (v:Int)=((v % 256:Nat):Int):=by rw[c1o];omega
 dsimp only;by_cases h:v<128
 ·rw[if_neg (by simp;omega),if_pos (by simp;omega)];rw[Ac,a4x h,hm,C5 (by omega)]
 ·obtain⟨k,rfl⟩:∃k',k=k'+1:=⟨k - 1,by
   rcases Cm k with h0|h0
   ·subst h0;omega
   ·omega⟩
  rw[if_pos (by simp;omega),if_pos (by simp;omega)];have e1:bits .or .u8 (Ah.wrap (v:Int)) 128=((v % 128+128:Nat):Int):=by
   rw[hm,show(128:Int)=((128:Nat):Int) from rfl,d8z (by omega) (by omega),h1v (by omega)];congr 1;omega
  have e2:=c7o v 7 (by omega);rw[e1,show((7:Int))=((7:Nat):Int) from rfl,e2];rw[hrec k _ (by omega) ⟨v / 2 ^ 7,rfl,by rw[BL] at h1;omega,by omega,by simp;omega⟩];simp only[Ac];rw[a9m (v:=v) (by omega)];simp
theorem b2z{v:Int}(h1:-9223372036854775808≤v)(h2:v≤9223372036854775807)(n:Nat):b0s n (v,())=some ((((zig v:Nat):Int),()),()):=by
 unfold b0s;dsimp only;rw[g2f h1 h2]
theorem b2x{u:Nat}(h:u<18446744073709551616)(n:Nat):b3f n ((u:Int),())=some ((zag u,()),()):=by
 unfold b3f;dsimp only;rw[g3d h]
def d8v(b:List Int)(y:(Int×Int×UV×Unit)×Unit):Prop :=
 match a3i b with
 |some (v,k)=>y=(((v:Int),(k:Int),UV.nil,()),())
 |none=>∃g,(g=b2k∨g=a4p)∧y=(((0:Int),(0:Int),UV.node a8p (.pair (.str [98,121,116,101]) (.pair (UV.sent g) .unit)),()),())
theorem g3s{V c i:Nat}(hV:V<2 ^ (7*i))(hi:i≤9)(hc:c % 128*2 ^ (7*i)<18446744073709551616)(hc8:c<256) :
  bits .or .u64 (V:Int) (Ae.wrap ((Ae.wrap (bits .and .u8 (c:Int) (127:Int)))*2 ^ min (Aa.wrap ((7:Int)*(i:Int))).toNat Ae.bits))=((V+c % 128*2 ^ (7*i):Nat):Int):=by
 have e1:bits .and .u8 (c:Int) (127:Int)=((c % 128:Nat):Int):=by
  have:=c6u hc8 (show 127<256 by omega);rw[g9g hc8] at this;exact this
 have e2:Aa.wrap ((7:Int)*(i:Int))=((7*i:Nat):Int):=by
  rw[a0d (by omega) (by omega)];push_cast;rfl
 have hp:2 ^ (7*i)≤2 ^ 63:=Bn (by omega) (by omega);rw[e1,e2,a2f (x:=c % 128) (by omega),d3x _ (7*i) Ae.bits (show 7*i≤64 by omega),a2f hc,d3w (by omega) hc,e9w hV]
theorem d5x{n:Nat}{b:List Int}(hb:a1h b)(hl:b.length<1000000)(hn:11≤n):Gets (c2o n (b,())) (d8v b):=by
 unfold c2o;dsimp only;refine Gets.iter (I:=fun s:Int×Int=>∃V i:Nat,s=((V:Int),(i:Int))∧i≤10∧i≤b.length∧a3i b=e3c i V (a3i (b.drop i))∧(i≤9→V<2 ^ (7*i))∧V<18446744073709551616) (μ:=fun s=>10 - s.2.toNat)
  ⟨0,0,rfl,by omega,by omega,by rw[Dk,f3b hb],by simp,by omega⟩ (by simp;omega) ?_
 rintro rec _ ⟨V,i,rfl,hi,hil,hT,hV,hV2⟩ hrec;dsimp only;rcases AY i 10 with h10|h10
 rotate_left
 ·obtain rfl:i=10:=by omega
  rw[if_neg (by simp)];rw[d3a] at hT;refine Gets.some ?_;unfold d8v;rw[hT];exact⟨_,.inr rfl,rfl⟩
 rw[if_pos (by simp;omega)];by_cases hend:i=b.length
 ·rw[if_pos (by simp;omega)];refine Gets.some ?_;rw[hend,EM] at hT;unfold d8v;rw[hT];exact⟨_,.inl rfl,rfl⟩
 rw[if_neg (by simp;omega),a0a (by omega),if_neg (by rw[a0d (by omega) (by omega)];omega)];obtain⟨c,hc1,hc2,hc3⟩:=hb.get (i:=i) (by omega);have hV':=hV (by omega);have e0:bits .and .u8 (c:Int) (128:Int)=((if c<128 then 0 else 128:Nat):Int):=by
  have:=c6u hc2 (show 128<256 by omega);rw[g8h hc2] at this;exact this
 rw[Ac,hc1,e0];have hw:Aa.wrap ((i:Int)+1)=((i+1:Nat):Int):=a0b (by omega);rw[hw];have hp:1≤2 ^ (7*i):=Nat.pow_pos (by omega);by_cases hcl:c<128
 ·rw[if_pos (by simp[hcl])];have hlast:=f4d (V:=V) (show i<b.length by omega) (by omega) (by omega);rw[←hT,hc3,Ac] at hlast;have good:V+c*2 ^ (7*i)<18446744073709551616→((i=0∨(c:Int)≠0))→Gets (some (((bits .or .u64 (V:Int) (Ae.wrap ((Ae.wrap (bits .and .u8 (c:Int) (127:Int)))*2 ^ min (Aa.wrap ((7:Int)*(i:Int))).toNat Ae.bits))),((i+1:Nat):Int),UV.nil,()),())) (d8v b):=by
   intro h1 h2;refine Gets.some ?_;rw[g3s hV' (by omega) (by rw[C5 hcl];omega) hc2,C5 hcl];rw[if_pos ⟨h2,h1⟩] at hlast;unfold d8v;rw[hlast]
  have bad:¬((i=0∨(c:Int)≠0)∧V+c*2 ^ (7*i)<18446744073709551616)→Gets (some (((0:Int),(0:Int),(UV.node a8p (.pair (.str [98,121,116,101]) (.pair (UV.sent a4p) .unit))),()),())) (d8v b):=by
   intro h1;rw[if_neg h1] at hlast;refine Gets.some ?_;unfold d8v;rw[hlast];exact⟨_,.inr rfl,rfl⟩
  have nine:Gets (if decide ((i:Int)=9)=true then(if decide ((1:Int)<(c:Int))=true then some (((0:Int),(0:Int),(UV.node a8p (.pair (.str [98,121,116,101]) (.pair (UV.sent a4p) .unit))),()),()) else some (((bits .or .u64 (V:Int) (Ae.wrap ((Ae.wrap (bits .and .u8 (c:Int) (127:Int)))*2 ^ min (Aa.wrap ((7:Int)*(i:Int))).toNat Ae.bits))),((i+1:Nat):Int),UV.nil,()),())) else some (((bits .or .u64 (V:Int) (Ae.wrap ((Ae.wrap (bits .and .u8 (c:Int) (127:Int)))*2 ^ min (Aa.wrap ((7:Int)*(i:Int))).toNat Ae.bits))),((i+1:Nat):Int),UV.nil,()),()):Option ((Int×Int×UV×Unit)×Unit)) (fun y=>(i=0∨(c:Int)≠0)→d8v b y):=by
   by_cases h9:i=9
   ·subst h9;rw[if_pos (by simp)];by_cases hc1':1<c
    ·rw[if_pos (by simp;omega)];refine(bad ?_).mono fun y h _=>h
     rintro⟨_,h2⟩;have:2*2 ^ (7*9)≤c*2 ^ (7*9):=An _ hc1';omega
    ·rw[if_neg (by simp;omega)];by_cases hz:(9=0∨(c:Int)≠0)
     ·refine(good ?_ hz).mono fun y h _=>h
      have:c*2 ^ (7*9)≤1*2 ^ (7*9):=An _ (by omega);omega
     ·exact Gets.some fun h=>absurd h hz
   ·rw[if_neg (by simp;omega)];by_cases hz:(i=0∨(c:Int)≠0)
    ·refine(good ?_ hz).mono fun y h _=>h
     have h1:c*2 ^ (7*i)≤127*2 ^ (7*i):=An _ (by omega);have h2:2 ^ (7*i)≤2 ^ (7*8):=Bn (by omega) (by omega);omega
    ·exact Gets.some fun h=>absurd h hz
  by_cases hi0:0<i
  ·rw[if_pos (by simp;omega)];by_cases hc0:c=0
   ·subst hc0;rw[if_pos (by simp)];exact bad (by rintro⟨h1,_⟩;simp at h1;omega)
   ·rw[if_neg (by simp;omega)];exact nine.mono fun y h=>h (.inr (by omega))
  ·rw[if_neg (by simp;omega)];exact nine.mono fun y h=>h (.inl (by omega))
 ·rw[if_neg (by simp[hcl])];have hstep:=f2u (V:=V) (show i<b.length by omega) (by omega);rw[←hT,hc3,Ac] at hstep;have hcm:c - 128=c % 128:=by omega
  by_cases h9:i=9
  ·
   subst h9;have hnone:a3i b=none:=by rw[hstep];exact d3a
   have hb2:∃V':Nat,bits .or .u64 (V:Int) (Ae.wrap ((Ae.wrap (bits .and .u8 (c:Int) (127:Int)))*2 ^ min (Aa.wrap ((7:Int)*((9:Nat):Int))).toNat Ae.bits))=(V':Int)∧V'<18446744073709551616:=by
    have hr:=f6x ((Ae.wrap (bits .and .u8 (c:Int) (127:Int)))*2 ^ min (Aa.wrap ((7:Int)*((9:Nat):Int))).toNat Ae.bits);obtain⟨q,hq⟩:∃q:Nat,Ae.wrap ((Ae.wrap (bits .and .u8 (c:Int) (127:Int)))*2 ^ min (Aa.wrap ((7:Int)*((9:Nat):Int))).toNat Ae.bits)=(q:Int):=⟨_,(A2 hr.1).symm⟩
    rw[hq] at hr ⊢;have hq2:q<18446744073709551616:=by omega
    refine⟨V ||| q,d3w hV2 hq2,?_⟩;have:V ||| q<2 ^ 64:=Nat.or_lt_two_pow (by omega) (by omega);omega
   obtain⟨V',e1,e2⟩:=hb2;rw[e1];refine hrec _ ⟨V',10,rfl,by omega,by omega,?_,by omega,e2⟩ (by simp);rw[d3a,hnone]
  ·have hlt:c % 128*2 ^ (7*i)<18446744073709551616:=by
    have h1:c % 128*2 ^ (7*i)≤127*2 ^ (7*i):=An _ (by omega);have h2:2 ^ (7*i)≤2 ^ (7*8):=Bn (by omega) (by omega);omega
   rw[g3s hV' (by omega) hlt hc2];have hb1:c % 128*2 ^ (7*i)≤127*2 ^ (7*i):=An _ (by omega);refine hrec _ ⟨_,i+1,rfl,by omega,by omega,by rw[hstep,hcm],fun _=>by rw[pow7];omega,?_⟩ (by simp;omega);have h2:2 ^ (7*i)≤2 ^ (7*8):=Bn (by omega) (by omega);omega
theorem a4s{n:Nat}{b:List Int}(hb:a1h b)(hl:b.length<1000000)(hn:11≤n) :
  a6n n (b,())=some (match a3i b with|some (v,k)=>((v:Int),(k:Int),true,())|none=>(0,0,false,()),()):=by
 obtain⟨y,h1,h2⟩:=d5x hb hl hn;unfold a6n a1x;dsimp only;rw[h1];simp only[Ab];unfold d8v at h2;split at h2
 ·rename_i v k ht;subst h2;rfl
 ·rename_i ht;obtain⟨g,hg,rfl⟩:=h2;rcases hg with rfl|rfl <;> rfl
end Go.Rb.R5

namespace Go.Rb.R5
open Go.Rb
set_option maxRecDepth 100000 in
theorem f6n:a2i.length=256:=by decide
set_option maxRecDepth 100000 in
theorem g5r:∀x:Fin 256,0≤a2i.getD x.1 0∧a2i.getD x.1 0≤8∧x.1<2 ^ (a2i.getD x.1 0).toNat∧(a2i.getD x.1 0=0∨2 ^ ((a2i.getD x.1 0).toNat - 1)≤x.1):=by decide
theorem f1x{x:Nat}(h:x<256):a2i.getD x 0=((blen x:Nat):Int)∧blen x≤8:=by
 obtain⟨h1,h2,h3,h4⟩:=g5r ⟨x,h⟩;dsimp only at h1 h2 h3 h4;obtain⟨k,hk⟩:∃k:Nat,a2i.getD x 0=(k:Int):=⟨_,(A2 h1).symm⟩
 have hk':(a2i.getD x 0).toNat=k:=by rw[hk];rfl
 rw[hk'] at h3 h4;rw[hk] at h1 h2 h4 ⊢;have e1:=(b2d k x).2 h3;have e2:k≤blen x:=by
  rcases h4 with h4|h4
  ·omega
  ·rcases Cm k with h0|h0
   ·omega
   ·have:¬blen x≤k - 1:=fun h=>by
     have:=(b2d (k - 1) x).1 h;omega
    omega
 have:k=blen x:=by omega
 exact⟨by rw[this],by omega⟩
theorem f3a{v:Nat}(hv:v<18446744073709551616)(n:Nat):a8y n ((v:Int),())=some ((((blen v:Nat):Int),()),()):=by
 have last:∀(u m:Nat),u<65536→m≤48→(if(decide ((256:Int)≤(u:Int)))=true then(atI (Ah.wrap ((u:Int).fdiv (2 ^ min (8:Int).toNat Ae.bits))) (a2i.length) (some (((Aa.wrap ((Aa.wrap ((m:Int)+8))+(Aa.wrap (a2i.getD (Ah.wrap ((u:Int).fdiv (2 ^ min (8:Int).toNat Ae.bits))).toNat (0:Int))))),()),())))
   else(atI (Ah.wrap (u:Int)) (a2i.length) (some (((Aa.wrap ((m:Int)+(Aa.wrap (a2i.getD (Ah.wrap (u:Int)).toNat (0:Int))))),()),()))):Option ((Int×Unit)×Unit))=some ((((blen u+m:Nat):Int),()),()):=by
  intro u m hu hm;by_cases h:256≤u
  ·rw[if_pos (by simp;omega)];have e:=c7o u 8 (by omega);rw[show((8:Int))=((8:Nat):Int) from rfl,e,b5r (by omega),a0a (by rw[f6n];omega),Ac];obtain⟨t1,t2⟩:=f1x (x:=u / 2 ^ 8) (by omega);have h3:=c2r 8 u (by omega);rw[t1,a0q (x:=blen (u / 2 ^ 8)) (by omega),show((m:Int)+((8:Nat):Int))=((m+8:Nat):Int) by omega,a0q (by omega),h3];rw[show(((m+8:Nat):Int)+((blen (u / 2 ^ 8):Nat):Int))=((blen (u / 2 ^ 8)+8+m:Nat):Int) by omega,a0q (by omega)]
  ·rw[if_neg (by simp;omega),b5r (by omega),a0a (by rw[f6n];omega),Ac];obtain⟨t1,t2⟩:=f1x (x:=u) (by omega);rw[t1,a0q (x:=blen u) (by omega),show(((m:Nat):Int)+((blen u:Nat):Int))=((blen u+m:Nat):Int) by omega,a0q (by omega)]
 unfold a8y;refine a9u (I:=fun s q=>∃u m:Nat,s=((u:Int),(m:Int))∧u<4294967296∧m≤32∧q=some ((((blen u+m:Nat):Int),()),())) ?_ ?_
 ·rintro _ _ ⟨u,m,rfl,hu,hm,rfl⟩;refine a9u (I:=fun s q=>∃u m:Nat,s=((u:Int),(m:Int))∧u<65536∧m≤48∧q=some ((((blen u+m:Nat):Int),()),())) ?_ ?_
  ·rintro _ _ ⟨u,m,rfl,hu,hm,rfl⟩;exact last u m hu hm
  ·intro J hJ;dsimp only;by_cases h:65536≤u
   ·rw[if_pos (by simp;omega)];have e:=c7o u 16 (by omega);have h3:=c2r 16 u (by omega);rw[show((16:Int))=((16:Nat):Int) from rfl,e,show((m:Int)+((16:Nat):Int))=((m+16:Nat):Int) by omega,a0q (by omega),hJ _ _ ⟨_,_,rfl,by omega,by omega,rfl⟩,h3];rw[show blen (u / 2 ^ 16)+(m+16)=blen (u / 2 ^ 16)+16+m by omega]
   ·rw[if_neg (by simp;omega),hJ _ _ ⟨_,_,rfl,by omega,by omega,rfl⟩]
 ·intro J hJ;dsimp only;by_cases h:4294967296≤v
  ·rw[if_pos (by simp;omega)];have e:=c7o v 32 (by omega);have h3:=c2r 32 v (by omega);rw[show((32:Int))=((32:Nat):Int) from rfl,e,hJ _ _ ⟨_,_,rfl,by omega,by omega,rfl⟩,h3]
  ·rw[if_neg (by simp;omega),show((v:Int),(0:Int))=((v:Int),((0:Nat):Int)) from rfl,hJ _ _ ⟨v,0,rfl,by omega,by omega,rfl⟩,CC]
theorem b5o{n:Nat}{l:List Int}(hl:∀x,x∈l→0≤x∧x<18446744073709551616)(hn:l.length<n)(hc:l.length<1000000):b0c n (l,())=some ((((a2v l:Nat):Int),()),()):=by
 unfold b0c;dsimp only;refine a0i (st:=fun i=>(((a2v (l.take i):Nat):Int),(i:Int))) l.length (by simp[a2v]) ?_ ?_ hn
 ·intro rec i hi;have hx:=hl _ (Aj hi);dsimp only;rw[if_pos (by simp;omega),a0a hi,Ac,a0c hi];obtain⟨v,hv⟩:∃v:Nat,l[i]=(v:Int):=⟨_,(A2 hx.1).symm⟩
  rw[hv,f3a (by omega)];simp only[Ab];rw[a0b (by omega)];congr 2;rw[Am hi];unfold a2v;rw[Cy];simp only[BK,GH,hv,Ac];split <;> omega
 ·intro rec;simp
theorem c4d{m:Nat}(h:m<1000000000)(n:Nat):b5i n ((m:Int),())=some (((((m+7) / 8:Nat):Int),()),()):=by
 unfold b5i;dsimp only;rw[show((m:Int)+7)=((m+7:Nat):Int) by omega,a0q (by omega),show((8:Int))=((8:Nat):Int) from rfl,a5m,a0q (by omega)]
def Nums(l:List Int):Prop:=∀x,x∈l→0≤x∧x<18446744073709551616
theorem b8t{n:Nat}{l:List Int}{w:Nat}(hl:Nums l)(hn:l.length<n)(hnw:64<n)(hc:l.length<100000) :
  b4k n (l,(w:Int),())=some (if w≤64∧a2v l≤w then(a7i l w,true,()) else([],false,()),()):=by
 unfold b4k;dsimp only;rw[if_neg (by simp)];by_cases hw:w≤64
 rotate_left
 ·rw[if_pos (by simp;omega),if_neg (by omega)]
 rw[if_neg (by simp;omega),b5o hl hn (by omega)];simp only[Ab];by_cases hwl:a2v l≤w
 rotate_left
 ·rw[if_pos (by simp;omega),if_neg (by omega)]
 rw[if_neg (by simp;omega),if_pos ⟨hw,hwl⟩];have hmul:l.length*w≤l.length*64:=Dg _ hw;have hr:=a0p;rw[show((l.length:Int)*(w:Int))=((l.length*w:Nat):Int) by push_cast;rfl,a0q (by omega),c4d (by omega)];simp only[Ab];rw[if_pos (by refine⟨by omega,by omega,?_⟩;omega)];have hb:=b6y l w;refine a0i (st:=fun i=>(a6i (bitL l w) ((l.length*w+7) / 8) (i*w),(i:Int))) l.length (by rw[EA,c1s,Ac];rfl) ?_ ?_ hn
 ·intro rec i hi;have hiw:i*w+w≤l.length*w:=by
   have:=An w (show i+1≤l.length from hi);rwa [Bi,CA] at this
  dsimp only;rw[if_pos (by simp;omega),a0a hi];refine a0i (st:=fun k=>(a6i (bitL l w) ((l.length*w+7) / 8) (i*w+k),(k:Int))) w (by simp) ?_ ?_ (by omega)
  ·intro rec2 k hk;dsimp only;rw[if_pos (by simp;omega)];have e1:Aa.wrap ((Aa.wrap ((i:Int)*(w:Int)))+(k:Int))=((i*w+k:Nat):Int):=by
    rw[show((i:Int)*(w:Int))=((i*w:Nat):Int) by push_cast;rfl,a0q (by omega),show(((i*w:Nat):Int)+(k:Int))=((i*w+k:Nat):Int) by omega,a0q (by omega)]
   have e2:(((i*w+k:Nat):Int)).tdiv (8:Int)=(((i*w+k) / 8:Nat):Int):=by
    rw[show((8:Int))=((8:Nat):Int) from rfl,a5m]
   have e3:(((i*w+k:Nat):Int)).tmod (8:Int)=(((i*w+k) % 8:Nat):Int):=by
    rw[show((8:Int))=((8:Nat):Int) from rfl,a9k]
   have hlt:(i*w+k) / 8<(l.length*w+7) / 8:=by omega
   rw[e1,e2,e3,a0q (by omega),a0a (by rw[a8e];exact hlt),if_neg (by omega),if_neg (by omega),a0a (by rw[a8e];exact hlt)];simp only[Ac];rw[a0b (by omega)];congr 2;rw[show i*w+(k+1)=i*w+k+1 by omega,←c0y hlt];congr 1;have hx:=hl _ (Aj hi);obtain⟨v,hv⟩:∃v:Nat,l[i]=(v:Int):=⟨_,(A2 hx.1).symm⟩
   have hsm:=c1m hb (i*w+k);have hp8:2 ^ ((i*w+k) % 8)≤2 ^ 7:=Bn (by omega) (by omega);have hbit:bitL l w (i*w+k)=v / 2 ^ k % 2:=by
    unfold bitL;rw[mul_add_div hk,mul_add_mod hk,a0c hi,hv,Ac]
   have h2:=c7o v k (by omega);rw[Ac] at h2;have h3:bits .and .u64 ((v / 2 ^ k:Nat):Int) (1:Int)=((v / 2 ^ k % 2:Nat):Int):=by
    have hq:v / 2 ^ k≤v:=D6 _ _;have:=d6v (x:=v / 2 ^ k) (y:=1) (by omega) (by omega);rw[DU] at this;exact this
   have h4:=d3x (v / 2 ^ k % 2) ((i*w+k) % 8) 8 (by omega);rw[Ac] at h4;have h5:v / 2 ^ k % 2*2 ^ ((i*w+k) % 8)<256:=by
    have:v / 2 ^ k % 2*2 ^ ((i*w+k) % 8)≤1*2 ^ ((i*w+k) % 8):=An _ (by omega);omega
   rw[b5n hlt,a0c hi,hv,h2,h3,b5r (x:=v / 2 ^ k % 2) (by omega),show Ah.bits=8 from rfl,h4,b5r h5,d8z (d2w hb _ _) h5,e9w hsm,hbit]
  ·intro rec2;dsimp only;rw[if_neg (by simp),a0b (by omega),show i*w+w=(i+1)*w by rw[Bi,CA]]
 ·intro rec;dsimp only;rw[if_neg (by simp)];rfl
def b4z(b:List Int)(n w p:Nat):List Int:=(AA n).map fun i=>((a5q (bitB b) (i*w) (min w (p - i*w)):Nat):Int)
theorem d7e(b:List Int)(n w p:Nat):(b4z b n w p).length=n:=by simp[b4z]
theorem f2o{b:List Int}{n w p i:Nat}(h:i<n):(b4z b n w p).getD i 0=((a5q (bitB b) (i*w) (min w (p - i*w)):Nat):Int):=by
 rw[a0c (by simpa[b4z] using h)];simp[b4z]
theorem e8e{b:List Int}{n w p:Nat}(hw:0<w)(h:p / w<n):(b4z b n w p).set (p / w) (((a5q (bitB b) (p / w*w) (p % w)+bitB b p*2 ^ (p % w):Nat):Int))=b4z b n w (p+1):=by
 have hdm:=GI p w;have hm:=Gm p hw;rw[BM] at hdm;apply Bm
 ·simp[b4z]
 ·intro i h1 h2;rw[Ee];simp only[b4z,Bj,BT];by_cases hi:p / w=i
  ·subst hi;rw[if_pos rfl,show min w (p+1 - p / w*w)=p % w+1 by omega,a5q,show p / w*w+p % w=p by omega]
  ·rw[if_neg hi];congr 2;rcases AY i (p / w) with h3|h3
   ·have:i*w+w≤p / w*w:=by
     have:=An w (show i+1≤p / w from h3);rwa [Bi,CA] at this
    omega
   ·have:p / w*w+w≤i*w:=by
     have:=An w (show p / w+1≤i by omega);rwa [Bi,CA] at this
    omega
theorem b4f{b:List Int}{n w:Nat}(hw:w≤64):Nums (b1n b n w):=by
 intro x hx;simp only[b1n,Bu] at hx;obtain⟨i,_,rfl⟩:=hx;have h1:=b9q (c8g b) (i*w) w;have h2:2 ^ w≤2 ^ 64:=Bn (by omega) hw;omega
theorem d1x{b:List Int}{n w:Nat}:a2v (b1n b n w)≤w:=by
 rw[b7p];intro x hx;simp only[b1n,Bu] at hx;obtain⟨i,_,rfl⟩:=hx;exact b9q (c8g b) (i*w) w
def b5s(b:List Int)(n w:Int):List Int×Bool×Unit :=
 if 0≤n∧n≤1000∧0≤w∧w≤64∧b.length=(n.toNat*w.toNat+7) / 8∧a7i (b1n b n.toNat w.toNat) w.toNat=b then(b1n b n.toNat w.toNat,true,()) else([],false,())
theorem b6z{n:Nat}{b:List Int}{m w:Int}(hb:a1h b)(hl:b.length<1000000)(hn:64001<n):b4x n (b,m,w,())=some (b5s b m w,()):=by
 unfold b4x b5s;dsimp only;by_cases h1:m<0
 ·rw[if_pos (by simpa using h1),if_neg (by omega)]
 rw[if_neg (by simpa using h1)];by_cases h2:1000<m
 ·rw[if_pos (by simpa using h2),if_neg (by omega)]
 rw[if_neg (by simpa using h2)];by_cases h3:w<0
 ·rw[if_pos (by simpa using h3),if_neg (by omega)]
 rw[if_neg (by simpa using h3)];by_cases h4:64<w
 ·rw[if_pos (by simpa using h4),if_neg (by omega)]
 rw[if_neg (by simpa using h4)];obtain⟨M,rfl⟩:∃M:Nat,m=(M:Int):=⟨_,(A2 (by omega)).symm⟩
 obtain⟨W,rfl⟩:∃W:Nat,w=(W:Int):=⟨_,(A2 (by omega)).symm⟩
 simp only[Ac];have hmul:M*W≤1000*64:=DJ (by omega) (by omega);have hr:=a0p;rw[show((M:Int)*(W:Int))=((M*W:Nat):Int) by push_cast;rfl,a0q (by omega),c4d (by omega)];simp only[Ab];by_cases h5:b.length=(M*W+7) / 8
 rotate_left
 ·rw[if_pos (by simp;omega),if_neg (by omega)]
 rw[if_neg (by simp;omega),if_pos (by refine⟨by omega,by omega,?_⟩;omega)];refine a0i (st:=fun p=>(b4z b M W p,(p:Int))) (M*W) ?_ ?_ ?_ (by omega)
 ·have:b4z b M W 0=Ag M 0:=by
   apply Bm
   ·simp[b4z]
   ·intro i q1 q2;simp[b4z,a5q]
  rw[this];rfl
 ·intro rec p hp;have hW:0<W:=by
   rcases Cm W with h0|h0
   ·rw[h0] at hp;simp at hp
   ·exact h0
  have hpW:p / W<M:=(Nat.div_lt_iff_lt_mul hW).2 hp;have hmW:=Gm p hW;dsimp only;have e2:((p:Int)).tdiv (W:Int)=((p / W:Nat):Int):=a5m p W;have e3:((p:Int)).tmod (W:Int)=((p % W:Nat):Int):=a9k p W;have e4:((p:Int)).tdiv (8:Int)=((p / 8:Nat):Int):=a5m p 8;have e5:((p:Int)).tmod (8:Int)=((p % 8:Nat):Int):=a9k p 8;rw[if_pos (by simp;omega),if_neg (by omega),e2,e3,e4,e5,a0q (x:=p / W) (by omega),a0q (x:=p / 8) (by omega),a0a (by rw[d7e];exact hpW),a0a (by omega),if_neg (by omega),if_neg (by omega),if_neg (by omega),a0a (by rw[d7e];exact hpW)];simp only[Ac];rw[a0b (by omega)];congr 2;rw[←e8e hW hpW];congr 1;obtain⟨c,hc1,hc2,hc3⟩:=hb.get (i:=p / 8) (by omega);have hbit:bitB b p=c / 2 ^ (p % 8) % 2:=by
   unfold bitB;rw[hc1,Ac]
  have h6:=f9w c (p % 8) (by omega);rw[Ac] at h6;have h7:bits .and .u8 ((c / 2 ^ (p % 8):Nat):Int) (1:Int)=((c / 2 ^ (p % 8) % 2:Nat):Int):=by
   have hq:c / 2 ^ (p % 8)≤c:=D6 _ _;have:=c6u (x:=c / 2 ^ (p % 8)) (y:=1) (by omega) (by omega);rw[DU] at this;exact this
  have h8:=d3x (c / 2 ^ (p % 8) % 2) (p % W) 64 (by omega);rw[Ac] at h8;have hp64:2 ^ (p % W)≤2 ^ 63:=Bn (by omega) (by omega);have h9:c / 2 ^ (p % 8) % 2*2 ^ (p % W)<18446744073709551616:=by
   have:c / 2 ^ (p % 8) % 2*2 ^ (p % W)≤1*2 ^ (p % W):=An _ (by omega);omega
  have hdm:=GI p W;rw[BM] at hdm;have h10:=b9q (c8g b) (p / W*W) (p % W);rw[f2o hpW,show min W (p - p / W*W)=p % W by omega,hc1,h6,h7,a2f (x:=c / 2 ^ (p % 8) % 2) (by omega),show Ae.bits=64 from rfl,h8,a2f h9,d3w (by omega) h9,e9w h10,hbit]
 ·intro rec;dsimp only;have hall:b4z b M W (M*W)=b1n b M W:=by
   unfold b4z b1n;apply C8;intro i hi;have hi':i<M:=by simpa using hi
   have:i*W+W≤M*W:=by
    have:=An W (show i+1≤M from hi');rwa [Bi,CA] at this
   rw[show min W (M*W - i*W)=W by omega]
  rw[if_neg (by simp),hall,b8t (b4f (by omega)) (by rw[b1e];omega) (by omega) (by rw[b1e];omega),if_pos ⟨by omega,d1x⟩];simp only[Ab,a0k];by_cases h6:a7i (b1n b M W) W=b
  ·rw[if_neg (by simp[h6]),if_pos ⟨by omega,by omega,by omega,by omega,h5,h6⟩]
  ·rw[if_pos (by simp[h6]),if_neg (fun h=>h6 h.2.2.2.2.2)]
end Go.Rb.R5

namespace Go.Rb.R5
open Go.Rb
abbrev d0:Vl:=((0:Int),(0:Int),[],())
theorem a2r(n:Nat)(v:Vl):a3f n (v,())=some ((mayV v,()),()):=by
 obtain⟨a,b,c,u⟩:=v;unfold a3f mayV;dsimp only;by_cases h1:a=1
 ·subst h1;by_cases h2:b < -32768
  ·have:¬(-32768≤b):=by omega
   simp[h2,this]
  ·by_cases h3:32767<b
   ·have:¬(b≤32767):=by omega
    simp[h2,h3,this]
   ·have e1:-32768≤b:=by omega
    have e2:b≤32767:=by omega
    simp[h2,h3,e1,e2]
 ·by_cases h2:a=2
  ·subst h2;simp
  ·by_cases h3:a=0
   ·subst h3;by_cases h4:b=0 <;> simp[h4]
   ·by_cases h4:a=3
    ·subst h4;by_cases h5:b=0
     ·simp[h5]
     ·by_cases h6:b=1 <;> simp[h5,h6]
    ·by_cases h5:a=4
     ·subst h5;by_cases h6:b=0
      ·have:((c.length:Int)≤20)↔c.length≤20:=by omega
       simp[h6,this]
      ·simp[h6]
     ·simp[h1,h2,h3,h4,h5]
theorem e2q{n:Nat}{t:Int}{l:List Vl}(hn:l.length<n)(hc:l.length<1000000):c6m n (t,l,())=some ((a1i t l,()),()):=by
 unfold c6m a1i;dsimp only;by_cases h1:t<1
 ·have:¬(1≤t):=by omega
  simp[h1,this]
 by_cases h2:4<t
 ·have:¬(t≤4):=by omega
  simp[h1,h2,this]
 rw[if_neg (by simpa using h1),if_neg (by simpa using h2),b7m l (a0j t) (some ((false,()),())) (some ((true,()),())) hn]
 ·have e1:1≤t:=by omega
  have e2:t≤4:=by omega
  cases l.all (a0j t) <;> simp[e1,e2]
 ·intro rec i hi;rw[if_pos (by simp;omega),a0a hi,Ac,a0c hi,a2r,a0b (by omega)];simp only[Ab];unfold a0j;by_cases h3:l[i].1=t
  ·cases mayV l[i] <;> simp[h3]
  ·simp[h3]
 ·intro rec;simp
theorem d9r{n:Nat}{b:List Int}{t:Int}{v:Vl}(h:a0j t v=true)(hv:okV v)(hb:b.length<1000000)(hn:10≤n):c2v n (b,v,())=some ((b++oneV v,()),()):=by
 obtain⟨h1,h2⟩:=a1s h;have hr:=a0p;unfold c2v oneV;dsimp only;by_cases h3:v.1=3
 ·rw[if_pos (by simpa using h3),if_pos (by simp;omega),if_pos h3];rw[a3u (by rcases h2 with h2|h2|h2|h2|h2 <;> omega) (by rcases h2 with h2|h2|h2|h2|h2 <;> omega)]
 ·rw[if_neg (by simpa using h3),if_neg h3];by_cases h4:v.1=4
  ·have hl:v.2.2.1.length≤20:=by omega
   rw[if_pos (by simpa using h4),if_pos (by simp;omega),if_pos (by simp;omega),if_pos h4,a3u (by omega) (by omega)];simp
  ·have h5:=a3r (b6v hv.2.1.1 hv.2.1.2);rw[if_neg (by simpa using h4),if_neg h4,b2z hv.2.1.1 hv.2.1.2];simp only[Ab];rw[a6u (b6v hv.2.1.1 hv.2.1.2) hn];simp only[Ab];rw[if_pos (by omega)]
theorem b5x{n:Nat}{t:Int}{x y:Vl}(ht:t≠0)(hx:a0j t x=true)(hy:a0j t y=true):a2j n (x,y,())=some ((cmpR t x y,()),()):=by
 have a:=(a1s hx).1;have b:=(a1s hy).1;unfold a2j a9x a6r a5a a8i a6f a9c a2n csF cmpR;dsimp only;rw[a,b];by_cases h4:t=4
 ·subst h4;simp
 ·unfold cmpZ;simp only[ht,h4,decide_false,AE,if_false,Ab,decide_true,Br];by_cases h1:x.2.1<y.2.1
  ·simp[h1]
  ·by_cases h2:y.2.1<x.2.1 <;> simp[h1,h2]
theorem e7e{n:Nat}{t:Int}{d:List Vl}{v:Vl}(ht:t≠0)(hd:∀x,x∈d→a0j t x=true)(hr:b1c (ltV t) d)(hv:v∈d)(hl:d.length<1000000)(hn:d.length+1<n) :
  a0o n (d,v,(fun c d=>(a2j n (c,d,())).bind fun r=>some r.1.1),())=some ((((posS d v:Nat):Int),true,()),()):=by
 have hp:=c0x hv;have hg:=c7m hv;unfold a0o;dsimp only;refine(a8m (I:=fun k (s:Int×Int)=>∃i j:Nat,s=((i:Int),(j:Int))∧i≤posS d v∧posS d v≤j∧j≤d.length∧j - i≤k)
  (res:=fun _=>some ((((posS d v:Nat):Int),true,()),())) ?_ n d.length _ ⟨0,d.length,rfl,by omega,by omega,by omega,by omega⟩ (by omega))
 rintro k _ rec ⟨i,j,rfl,h1,h2,h3,h4⟩ hrec;dsimp only;by_cases h5:i<j
 ·have e1:Aa.wrap ((Ae.wrap (Aa.wrap ((i:Int)+(j:Int)))).fdiv (2 ^ min (1:Int).toNat Ae.bits))=(((i+j) / 2:Nat):Int):=by
   rw[show((i:Int)+(j:Int))=((i+j:Nat):Int) by omega,a0q (by omega),a2f (by omega)];have:=c7o (i+j) 1 (by omega);rw[show((1:Int))=((1:Nat):Int) from rfl,this,a0q (by omega)]
  have hm:(i+j) / 2<d.length:=by omega
  rw[if_pos (by simp;omega),e1,a0a hm,Ac,a0c hm,b5x ht (hd _ (Aj hm)) (hd v hv)];simp only[Ab];have hless:=f6q (a7q t) hd hr hv hm;by_cases h6:(i+j) / 2<posS d v
  ·have:=e9c.2 (hless.2 h6);rw[if_pos (by simpa using this),a0b (by omega)];exact hrec (j - ((i+j) / 2+1)) _ (by omega) ⟨_,_,rfl,by omega,by omega,by omega,by omega⟩
  ·have:¬cmpR t d[(i+j) / 2] v<0:=fun h=>h6 (hless.1 (e9c.1 h))
   rw[if_neg (by simpa using this)];exact hrec ((i+j) / 2 - i) _ (by omega) ⟨_,_,rfl,by omega,by omega,by omega,by omega⟩
 ·obtain rfl:i=posS d v:=by omega
  rw[if_neg (by simp;omega),if_pos (by simp;omega),a0a hp,Ac,a0c hp,hg,b5x ht (hd v hv) (hd v hv)];simp only[Ab];rw[(g5c (hd v hv) (hd v hv)).2 rfl];rfl
theorem b4s{n m:Nat}(hm:m<1000000)(hn:2<n):b2v n ((m:Int),())=some ((((blen (m - 1):Nat):Int),()),()):=by
 unfold b2v;dsimp only;have e:Ae.wrap (if(0:Int)≤(Aa.wrap ((m:Int) - 1)) then(Aa.wrap ((m:Int) - 1)) else(0:Int))=((m - 1:Nat):Int):=by
  rw[a0d (x:=(m:Int) - 1) (by omega) (by omega)];split
  ·rw[show((m:Int) - 1)=((m - 1:Nat):Int) by omega,a2f (by omega)]
  ·have:m=0:=by omega
   subst this;rfl
 rw[e,b5o (by intro x hx;simp at hx;subst hx;omega) (by simp;omega) (by simp)];simp[a2v]
theorem b8v{n:Nat}{t:Int}{l:List Vl}(hv:∀v,v∈l→okV v)(hl:l.length≤1000)(hn:2000≤n) :
  b8b n (t,l,())=some (if a1i t l=true then(b7v t l,true,()) else([],false,()),()):=by
 unfold b8b;dsimp only;rw[e2q (by omega) (by omega)];simp only[Ab];cases h:a1i t l with
 |false=>rfl
 |true =>
  obtain⟨ht1,ht4,hr⟩:=a2m h;have hR:=b4p h hv;have hdl:=c3u (ltV t) l;have hro:=a0p;simp only[Br,AE,if_false,if_true];unfold a0e a0y a1a g6d g7m;dsimp only;simp only[Ab];have hcs:=f5o (t:=t) (by omega) (fun x hx=>⟨hr x hx,hv x hx⟩);have hcs':e5b (Ty.st (.pair tI (.pair tI (.pair .str .unit)))) (Sort.pdq (Go.Proofs.ltOf cfV) l.toArray 0 l.length (Lib.bitLen l.length) true true).toList=a9a t l:=hcs;rw[hcs'];obtain⟨D,hD⟩:∃D,a9a t l=D:=⟨_,rfl⟩
  have hDl:D.length≤l.length:=by rw[←hD];exact hdl
  have hDr:∀v,v∈D→a0j t v=true∧okV v:=by rw[←hD];exact hR
  have hDri:b1c (ltV t) D:=by rw[←hD];exact c4w (a7q t) hr
  have hDm:∀v,v∈l→v∈D:=fun v hm=>by rw[←hD];exact(b4c (a7q t) hr v).2 hm
  have hfl:=a1t hDr;rw[hD,a2f (by omega),a6u (by omega) (by omega)];simp only[Ab];have hp10:=a3r (v:=D.length) (by omega);refine a0i (st:=fun i=>(putN D.length++(D.take i).flatMap oneV,(i:Int))) D.length (by simp) ?_ ?_ (by omega)
  ·intro rec i hi;dsimp only;have hlen:=a1t (d:=D.take i) fun v hv=>hDr v (Bk hv)
   have hti:(D.take i).length≤D.length:=by simp;omega
   rw[if_pos (by simp;omega),a0a hi,Ac,a0c hi,d9r (hDr _ (Aj hi)).1 (hDr _ (Aj hi)).2 (by simp only[Ap];omega) (by omega)];simp only[Ab];rw[a0b (by omega),b6r _ hi,Al]
  ·intro rec;dsimp only;rw[if_neg (by simp)];refine a0i (st:=fun i=>((l.take i).map (fun v=>((posS D v:Nat):Int)),(i:Int))) l.length (by simp) ?_ ?_ (by omega)
   ·intro rec2 i hi;dsimp only;rw[if_pos (by simp;omega),a0a hi,Ac,a0c hi,e7e (by omega) (fun x hx=>(hDr x hx).1) hDri (hDm _ (Aj hi)) (by omega) (by omega)];simp only[Ab];have:=c0x (hDm _ (Aj hi));rw[a2f (by omega),if_pos (by simp;omega),a0b (by omega),map_take _ hi]
   ·intro rec2;dsimp only;rw[if_neg (by simp),b4s (by omega) (by omega)];simp only[Ab];have hpl:(l.take l.length).map (fun v=>((posS D v:Nat):Int))=a1w t l:=by
     unfold a1w;rw[hD,Aq]
    have hb10:blen (D.length - 1)≤10:=b8j (by omega);have hsm:=a9w h;rw[hD] at hsm;rw[hpl,b8t (fun x hx=>by have:=c7c h x hx;rw[hD] at this;omega) (by rw[a2c];omega) (by omega) (by rw[a2c];omega),if_pos ⟨by omega,b7p.2 fun x hx=>(hsm x hx).2⟩];simp only[Ab];have hmul:l.length*blen (D.length - 1)≤1000*10:=DJ hl hb10;have ht:D.take D.length=D:=Aq;rw[ht,if_pos (by simp only[Ap,a4b,a2c];omega)];unfold b7v;rw[hD,Al]
end Go.Rb.R5

namespace Go.Rb.R5
open Go.Rb
def errD(msg:List Int):UV:=UV.node a2w (.pair (.str msg) (.pair (UV.sent a1e) .unit))
def c7d(t:Int)(b:List Int)(y:(Vl×Int×UV×Unit)×Unit):Prop :=
 match a3e t b with
 |some (v,k)=>y=((v,(k:Int),UV.nil,()),())
 |none=>∃v msg,y=((v,(0:Int),errD msg,()),())
theorem b8h{n:Nat}{t:Int}{b:List Int}(hb:a1h b)(hl:b.length<1000000)(hn:11≤n):Gets (b5w n (t,b,())) (c7d t b):=by
 unfold b5w;refine Gets.join (I:=fun s=>s=(t,(0:Int),([]:List Int),())∧t=4∧b≠[]) ?_ ?_
 ·rintro _ ⟨rfl,rfl,hne⟩;dsimp only;cases b with
  |nil=>exact absurd rfl hne
  |cons c l =>
   have hc:=hb c (by simp);have e0:(c::l).getD ((0:Int)).toNat (0:Int)=c:=rfl;refine Gets.atI (by omega) (by simp) ?_;rw[e0,a0d (x:=c) (by omega) (by omega),a0d (by omega) (by omega)];have e1:(1+c).toNat=1+c.toNat:=by omega
   by_cases h:1+c.toNat≤(c::l).length
   ·rw[if_neg (by simp at h ⊢;omega),if_pos (by simp at h ⊢;omega)];refine Gets.some ?_;unfold c7d a3e;rw[if_neg (by simp)];dsimp only;rw[if_neg (by decide),if_pos h,e1];dsimp only;rw[show(1+c)=((1+c.toNat:Nat):Int) by omega];rfl
   ·rw[if_pos (by simp at h ⊢;omega)];refine Gets.some ?_;unfold c7d a3e;rw[if_neg (by simp)];dsimp only;rw[if_neg (by decide),if_neg h];exact⟨_,_,rfl⟩
 ·intro J hJ;dsimp only;have two:(t=3∨t=4)→Gets (if(decide ((b.length:Int)=0))=true then(some (((t,(0:Int),([]:List Int),()),(0:Int),(UV.node a2w (.pair (.str [110,111,32,98,121,116,101]) (.pair (UV.sent a1e) .unit))),()),())) else(if(decide (t=3))=true then(atI (0:Int) b.length (some (((t,(Aa.wrap (b.getD (0:Int).toNat (0:Int))),([]:List Int),()),(1:Int),UV.nil,()),()))) else(J (t,(0:Int),([]:List Int),())))) (c7d t b):=by
   intro ht;cases b with
   |nil =>
    rw[if_pos (by simp)];refine Gets.some ?_;unfold c7d a3e;rw[if_neg (by omega)];exact⟨_,_,rfl⟩
   |cons c l =>
    have hc:=hb c (by simp);rw[if_neg (by simp;omega)];by_cases h3:t=3
    ·rw[if_pos (by simpa using h3)];refine Gets.atI (by omega) (by simp) (Gets.some ?_);unfold c7d a3e;rw[if_neg (by omega)];dsimp only;rw[if_pos h3,show(c::l).getD ((0:Int)).toNat (0:Int)=c from rfl,a0d (by omega) (by omega)];rfl
    ·rw[if_neg (by simpa using h3)];exact hJ _ ⟨rfl,by omega,by simp⟩
  by_cases h3:t=3
  ·rw[if_neg (by simp[h3])];exact two (.inl h3)
  ·rw[if_pos (by simp[h3])];by_cases h4:t=4
   ·rw[if_neg (by simp[h4])];exact two (.inr h4)
   ·rw[if_pos (by simp[h4]),a4s hb hl hn];simp only[Ab];have hfv:a3e t b=(match a3i b with|some (u,k)=>some ((t,zag u,[],()),k)|none=>none):=by
     unfold a3e;rw[if_pos ⟨h3,h4⟩];rfl
    unfold c7d;rw[hfv];cases htk:a3i b with
    |none =>
     dsimp only;rw[if_pos (by simp)];exact Gets.some ⟨_,_,rfl⟩
    |some r =>
     obtain⟨u,k⟩:=r;dsimp only;rw[if_neg (by simp),b2x (a2g hb htk).1];exact Gets.some rfl
def Good(t m:Int)(b:List Int)(l:List Vl):Prop:=0≤m∧m≤1000∧(l.length:Int)=m∧a1i t l=true∧(∀v,v∈l→okV v)∧b7v t l=b
def g9e(t m:Int)(b:List Int)(y:(List Vl×UV×Unit)×Unit):Prop:=(∃l,y=((l,UV.nil,()),())∧Good t m b l)∨∃msg,y=(([],errD msg,()),())
theorem a1h.drop{b:List Int}(h:a1h b)(k:Nat):a1h (b.drop k):=fun x hx=>h x (Bf hx)
theorem d0q{n:Nat}{t m:Int}{b:List Int}(ht:-9223372036854775808≤t∧t≤9223372036854775807)(hb:a1h b)(hl:b.length<1000000)(hn:70000≤n) :
  Gets (b2e n (t,m,b,())) (g9e t m b):=by
 have hro:=a0p;have bad:∀msg,Gets (some ((([]:List Vl),errD msg,()),())) (g9e t m b):=fun msg=>Gets.some (.inr ⟨msg,rfl⟩)
 unfold b2e;dsimp only;rw[a4s hb hl (by omega)];simp only[Ab];by_cases h1:m<0
 ·rw[if_pos (by simpa using h1)];exact bad _
 rw[if_neg (by simpa using h1)];by_cases h2:1000<m
 ·rw[if_pos (by simpa using h2)];exact bad _
 rw[if_neg (by simpa using h2)];obtain⟨M,rfl⟩:∃M:Nat,m=(M:Int):=⟨_,(A2 (by omega)).symm⟩
 cases htk:a3i b with
 |none =>
  dsimp only;rw[if_pos (by simp)];exact bad _
 |some r =>
  obtain⟨u,k⟩:=r;have hT:=a2g hb htk;dsimp only;rw[if_neg (by simp),a2f (by omega)];by_cases h3:M<u
  ·rw[if_pos (by simp;omega)];exact bad _
  rw[if_neg (by simp;omega),if_pos (by omega)];refine Gets.iter (I:=fun s:List Vl×List Int×List Vl×Int=>∃(rest:List Int) (all:List Vl),s=([],rest,all,(all.length:Int))∧a1h rest∧rest.length<1000000∧all.length≤u∧∀v,v∈all→okV v)
   (μ:=fun s=>u - s.2.2.1.length) ⟨_,[],rfl,?_,?_,by simp,by simp⟩ (by simp;omega) ?_
  ·simp only[Ac,Aq];exact hb.drop _
  ·simp only[Ac,Aq,AM];omega
  rintro rec _ ⟨rest,all,rfl,g1,g2,g3,g4⟩ hrec;dsimp only;by_cases h4:all.length<u
  ·rw[if_pos (by simp;omega)];refine Gets.bind (b8h (n:=n) (t:=t) g1 g2 (by omega)) fun y hy=>?_
   unfold c7d at hy;cases hf:a3e t rest with
   |none =>
    rw[hf] at hy;obtain⟨v,msg,rfl⟩:=hy;dsimp only;rw[if_pos (by simp[errD])];exact bad _
   |some r =>
    obtain⟨v,k'⟩:=r;rw[hf] at hy;subst hy;obtain⟨q1,q2,q3,q4⟩:=b7k ht g1 hf;dsimp only;rw[if_neg (by simp),if_pos (by simp;omega),if_pos (by omega)];refine hrec _ ⟨List.drop ((k':Nat):Int).toNat (List.take ((rest.length:Nat):Int).toNat rest),all++[v],?_,?_,?_,by simp;omega,?_⟩ (by simp;omega)
    ·rw[show Ae.wrap ((all.length:Int)+1)=(((all++[v]).length:Nat):Int) by simp;rw[c6c (by omega) (by omega)]]
    ·simp only[Ac,Aq];exact g1.drop _
    ·simp only[Ac,Aq,AM];omega
    ·intro x hx;rcases Ao.1 hx with hx|hx
     ·exact g4 x hx
     ·simp at hx;subst hx;exact q1
  ·rw[if_neg (by simp;omega),b4s (by omega) (by omega)];simp only[Ab];rw[b6z g1 g2 (by omega)];simp only[Ab];have hal:all.length=u:=by omega
   unfold b5s;split
   ·rename_i hok;dsimp only;rw[if_neg (by simp)];have hnum:=b4f (b:=rest) (n:=((M:Int)).toNat) (w:=(((blen (all.length - 1):Nat):Int)).toNat) (by omega);have hplen:=b1e rest ((M:Int)).toNat (((blen (all.length - 1):Nat):Int)).toNat;generalize b1n rest ((M:Int)).toNat (((blen (all.length - 1):Nat):Int)).toNat=places at hnum hplen ⊢;rw[Ac] at hplen;refine Gets.iter (I:=fun s:List Vl×Int=>s.2=(s.1.length:Int)∧s.1.length≤places.length∧∀v,v∈s.1→okV v) (μ:=fun s=>places.length - s.1.length) ⟨by simp,by simp,by simp⟩ (by simp;omega) ?_;rintro rec2 ⟨l,i⟩ ⟨k1,k2,k3⟩ hrec2;dsimp only at k1 k2 k3;subst k1;dsimp only;by_cases h5:l.length<places.length
    ·have hx:=hnum _ (Aj h5);rw[if_pos (by simp;omega),a0a h5,Ac,a0c h5];obtain⟨p,hp⟩:∃p:Nat,places[l.length]=(p:Int):=⟨_,(A2 hx.1).symm⟩
     rw[hp];by_cases h6:u≤p
     ·rw[if_pos (by simp;omega)];exact bad _
     ·have hpl:p<all.length:=by omega
      rw[if_neg (by simp;omega),a0a hpl,Ac,a0c hpl,if_pos (by simp;omega),a0b (by omega)];refine hrec2 _ ⟨by simp,by simp;omega,fun x hx=>?_⟩ (by simp;omega);rcases Ao.1 hx with hx|hx
      ·exact k3 x hx
      ·simp at hx;subst hx;exact g4 _ (Aj hpl)
    ·rw[if_neg (by simp;omega)];rw[b8v k3 (by omega) (by omega)];simp only[Ab];cases hright:a1i t l with
     |false =>
      rw[if_neg Bool.false_ne_true];dsimp only;rw[if_pos (by simp)];exact bad _
     |true =>
      rw[if_pos rfl];dsimp only;rw[if_neg (by simp)];unfold a0k;simp only[Ab];by_cases h7:b7v t l=b
      ·rw[if_neg (by simp[h7])];exact Gets.some (.inl ⟨l,rfl,by omega,by omega,by omega,hright,k3,h7⟩)
      ·rw[if_pos (by simp[h7])];exact bad _
   ·dsimp only;rw[if_pos (by simp)];exact bad _
theorem d0e{n:Nat}{t:Int}{l:List Vl}(hv:∀v,v∈l→okV v)(hr:a1i t l=true)(hl:l.length≤1000)(hn:70000≤n) :
  b2e n (t,(l.length:Int),b7v t l,())=some ((l,UV.nil,()),()):=by
 have hro:=a0p;obtain⟨ht1,ht4,hrr⟩:=a2m hr;have hb:=d9v hr hv;have hbl:=d4t hr hv hl;have hdl:=c3u (ltV t) l;have hR:=b4p hr hv;have hsm:=a9w hr;have hplt:=c7c hr;have hback:=b9s hr;obtain⟨b,hbd⟩:∃b,b7v t l=b:=⟨_,rfl⟩
 rw[hbd] at hb hbl ⊢;have hbd':=hbd;unfold b7v at hbd';obtain⟨D,hD⟩:∃D,a9a t l=D:=⟨_,rfl⟩
 rw[hD] at hbd' hR hsm hplt hback;have hDl:D.length≤l.length:=by rw[←hD];exact hdl
 have htk:a3i b=some (D.length,(putN D.length).length):=by rw[←hbd'];exact a5b _ _ (by omega)
 have hdrop:b.drop (putN D.length).length=D.flatMap oneV++a7i (a1w t l) (blen (D.length - 1)):=by rw[←hbd'];simp
 have hb10:blen (D.length - 1)≤10:=b8j (by omega);have hmul:l.length*blen (D.length - 1)≤1000*10:=DJ hl hb10;have hkl:=(a2g hb htk).2.1;have hfl:=a1t hR;have hbits:a1h (a7i (a1w t l) (blen (D.length - 1))):=b8c (b6y _ _);unfold b2e;dsimp only;rw[a4s hb (by omega) (by omega),htk];simp only[Ab];rw[if_neg (by simp),if_neg (by simp;omega),if_neg (by simp),a2f (by omega),if_neg (by simp;omega),if_pos (by omega)];refine a0i (st:=fun i=>(([]:List Vl),(D.drop i).flatMap oneV++a7i (a1w t l) (blen (D.length - 1)),D.take i,(i:Int))) D.length ?_ ?_ ?_ (by omega)
 ·simp only[Ac,Aq,hdrop];simp
 ·intro rec i hi;have hsub:∀v,v∈D.drop i→a0j t v=true∧okV v:=fun v hm=>hR v (Bf hm)
  have hfl2:=a1t hsub;have hrest:a1h ((D.drop i).flatMap oneV++a7i (a1w t l) (blen (D.length - 1))):=by
   intro x hx;rcases Ao.1 hx with hx|hx
   ·exact b2q hsub x hx
   ·exact hbits x hx
  have hlen:((D.drop i).flatMap oneV++a7i (a1w t l) (blen (D.length - 1))).length<1000000:=by
   simp only[Ap,a4b,a2c];simp only[AM] at hfl2;omega
  have hdi:D.drop i=D[i]::D.drop (i+1):=A7 hi;have hRi:=hR _ (Aj hi);have hfst:=b1t hRi.1 hRi.2 ((D.drop (i+1)).flatMap oneV++a7i (a1w t l) (blen (D.length - 1)));obtain⟨y,hy1,hy2⟩:=b8h (n:=n) (t:=t) hrest hlen (by omega);dsimp only;rw[if_pos (by simp;omega),hy1];rw[hdi] at hy2 hlen ⊢;rw[List.flatMap_cons,Al] at hy2 hlen ⊢;unfold c7d at hy2;rw[hfst] at hy2;subst hy2;simp only[Ab];rw[if_neg (by simp),if_pos (by simp;omega),if_pos (by refine⟨by omega,?_⟩;simp only[Ap];omega),c6c (by omega) (by omega)];simp only[Ac,Aq,List.drop_left,Am hi];rfl
 ·intro rec;dsimp only;rw[if_neg (by simp),EM,List.flatMap_nil,EP,Aq,b4s (by omega) (by omega)];simp only[Ab];rw[b6z hbits (by rw[a4b,a2c];omega) (by omega)];simp only[Ab];have hbb:b1n (a7i (a1w t l) (blen (D.length - 1))) l.length (blen (D.length - 1))=a1w t l:=by
   have:=b5h (l:=a1w t l) (w:=blen (D.length - 1)) hsm;rwa [a2c] at this
  unfold b5s;split
  rotate_left
  ·rename_i hno;exfalso;apply hno;simp only[Ac,hbb];exact⟨by omega,by omega,by omega,by omega,by rw[a4b,a2c],trivial⟩
  simp only[Ac,hbb];rw[if_neg (by simp)];refine a0i (st:=fun i=>(((a1w t l).take i).map (fun p=>D.getD p.toNat d0),(i:Int))) (a1w t l).length (by simp) ?_ ?_ (by rw[a2c];omega)
  ·intro rec2 i hi;have hx:=hplt _ (Aj hi);have hil:i<l.length:=by rw[a2c] at hi;exact hi
   dsimp only;obtain⟨p,hp⟩:∃p:Nat,(a1w t l)[i]=(p:Int):=⟨_,(A2 hx.1).symm⟩
   have hpl:p<D.length:=by rw[hp,Ac] at hx;exact hx.2
   rw[if_pos (by simp;omega),a0a hi,Ac,a0c hi,hp,if_neg (by simp;omega),a0a hpl,Ac,if_pos (by simp;omega),a0b (by omega),map_take _ hi,hp,Ac]
  ·intro rec2;dsimp only;rw[if_neg (by simp),Aq,hback];rw[b8v hv hl (by omega),if_pos hr];simp only[Ab];rw[if_neg (by simp),hbd];unfold a0k;simp
theorem d0f{n:Nat}{t m:Int}{b:List Int}(ht:-9223372036854775808≤t∧t≤9223372036854775807)(hb:a1h b)(hl:b.length<1000000)(hn:70000≤n) :
  Gets (b5q n (t,m,b,())) fun y=>(∃l,y=((l,true,()),())∧Good t m b l)∨(y=(([],false,()),())∧∀l,¬Good t m b l):=by
 unfold b5q a1x;dsimp only;obtain⟨y,h1,h2⟩:=d0q (m:=m) ht hb hl hn;rw[h1];simp only[Ab];rcases h2 with⟨l,rfl,hg⟩|⟨msg,rfl⟩
 ·exact Gets.some (.inl ⟨l,rfl,hg⟩)
 ·refine Gets.some (.inr ⟨rfl,fun l hg=>?_⟩);obtain⟨g1,g2,g3,g4,g5,g6⟩:=hg;have:=d0e (n:=n) g5 g4 (by omega) hn;rw[g6,g3,h1] at this;simp[errD] at this
end Go.Rb.R5

namespace Go.Rb.R5
open Go.Rb
theorem eqVl(x y:Vl):((decide (x.1=y.1))&&((decide (x.2.1=y.2.1))&&(decide (x.2.2.1=y.2.2.1))))=decide (x=y):=by
 obtain⟨a,b,c,u⟩:=x;obtain⟨a',b',c',u'⟩:=y;by_cases h1:a=a' <;> by_cases h2:b=b' <;> by_cases h3:c=c' <;> simp[h1,h2,h3]
theorem e1m{n:Nat}{t:Int}{l:List Vl}(hn:l.length<n)(hc:l.length<1000000):c3t n (t,l,())=some ((a1i t l,()),()):=by
 unfold c3t a1i;dsimp only;by_cases h1:t<1
 ·have:¬(1≤t):=by omega
  simp[h1,this]
 by_cases h2:4<t
 ·have:¬(t≤4):=by omega
  simp[h1,h2,this]
 rw[if_neg (by simpa using h1),if_neg (by simpa using h2),b7m l (a0j t) (some ((false,()),())) (some ((true,()),())) hn]
 ·have e1:1≤t:=by omega
  have e2:t≤4:=by omega
  cases l.all (a0j t) <;> simp[e1,e2]
 ·intro rec i hi;rw[if_pos (by simp <;> omega),a0a hi,Ac,a0c hi,a2r,a0b (by omega)];simp only[Ab];unfold a0j;by_cases h3:l[i].1=t
  ·cases mayV l[i] <;> simp[h3]
  ·simp[h3]
 ·intro rec;simp
theorem d6a{n:Nat}{b:List Int}{t:Int}{v:Vl}(h:a0j t v=true)(hv:okV v)(hb:b.length<1000000)(hn:10≤n):b9b n (b,v,())=some ((b++oneV v,()),()):=by
 obtain⟨h1,h2⟩:=a1s h;have hr:=a0p;unfold b9b oneV;dsimp only;by_cases h3:v.1=3
 ·rw[if_pos (by simpa using h3),if_pos (by simp <;> omega),if_pos h3];rw[a3u (by rcases h2 with h2|h2|h2|h2|h2 <;> omega) (by rcases h2 with h2|h2|h2|h2|h2 <;> omega)]
 ·rw[if_neg (by simpa using h3),if_neg h3];by_cases h4:v.1=4
  ·have hl:v.2.2.1.length≤20:=by omega
   rw[if_pos (by simpa using h4),if_pos (by simp <;> omega),if_pos (by simp <;> omega),if_pos h4,a3u (by omega) (by omega)];simp
  ·have h5:=a3r (b6v hv.2.1.1 hv.2.1.2);rw[if_neg (by simpa using h4),if_neg h4,b2z hv.2.1.1 hv.2.1.2];simp only[Ab];rw[a6u (b6v hv.2.1.1 hv.2.1.2) hn];simp only[Ab];rw[if_pos (by omega)]
def errA(msg:List Int):UV:=UV.node a4c (.pair (.str msg) (.pair (UV.sent a1z) .unit))
def c0p(t:Int)(b:List Int)(y:(Vl×Int×UV×Unit)×Unit):Prop :=
 match a3e t b with
 |some (v,k)=>y=((v,(k:Int),UV.nil,()),())
 |none=>∃v msg,y=((v,(0:Int),errA msg,()),())
theorem c6d{n:Nat}{t:Int}{b:List Int}(hb:a1h b)(hl:b.length<1000000)(hn:11≤n):Gets (b3x n (t,b,())) (c0p t b):=by
 unfold b3x;refine Gets.join (I:=fun s=>s=(t,(0:Int),([]:List Int),())∧t=4∧b≠[]) ?_ ?_
 ·rintro _ ⟨rfl,rfl,hne⟩;dsimp only;cases b with
  |nil=>exact absurd rfl hne
  |cons c l =>
   have hc:=hb c (by simp);have e0:(c::l).getD ((0:Int)).toNat (0:Int)=c:=rfl;refine Gets.atI (by omega) (by simp) ?_;rw[e0,a0d (x:=c) (by omega) (by omega),a0d (by omega) (by omega)];have e1:(1+c).toNat=1+c.toNat:=by omega
   by_cases h:1+c.toNat≤(c::l).length
   ·rw[if_neg (by simp at h ⊢;omega),if_pos (by simp at h ⊢;omega)];refine Gets.some ?_;unfold c0p a3e;rw[if_neg (by simp)];dsimp only;rw[if_neg (by decide),if_pos h,e1];dsimp only;rw[show(1+c)=((1+c.toNat:Nat):Int) by omega];rfl
   ·rw[if_pos (by simp at h ⊢;omega)];refine Gets.some ?_;unfold c0p a3e;rw[if_neg (by simp)];dsimp only;rw[if_neg (by decide),if_neg h];exact⟨_,_,rfl⟩
 ·intro J hJ;dsimp only;have two:(t=3∨t=4)→Gets (if(decide ((b.length:Int)=0))=true then(some (((t,(0:Int),([]:List Int),()),(0:Int),(UV.node a4c (.pair (.str [110,111,32,98,121,116,101]) (.pair (UV.sent a1z) .unit))),()),())) else(if(decide (t=3))=true then(atI (0:Int) b.length (some (((t,(Aa.wrap (b.getD (0:Int).toNat (0:Int))),([]:List Int),()),(1:Int),UV.nil,()),()))) else(J (t,(0:Int),([]:List Int),())))) (c0p t b):=by
   intro ht;cases b with
   |nil =>
    rw[if_pos (by simp)];refine Gets.some ?_;unfold c0p a3e;rw[if_neg (by omega)];exact⟨_,_,rfl⟩
   |cons c l =>
    have hc:=hb c (by simp);rw[if_neg (by simp <;> omega)];by_cases h3:t=3
    ·rw[if_pos (by simpa using h3)];refine Gets.atI (by omega) (by simp) (Gets.some ?_);unfold c0p a3e;rw[if_neg (by omega)];dsimp only;rw[if_pos h3,show(c::l).getD ((0:Int)).toNat (0:Int)=c from rfl,a0d (by omega) (by omega)];rfl
    ·rw[if_neg (by simpa using h3)];exact hJ _ ⟨rfl,by omega,by simp⟩
  by_cases h3:t=3
  ·rw[if_neg (by simp[h3])];exact two (.inl h3)
  ·rw[if_pos (by simp[h3])];by_cases h4:t=4
   ·rw[if_neg (by simp[h4])];exact two (.inr h4)
   ·rw[if_pos (by simp[h4]),a4s hb hl hn];simp only[Ab];have hfv:a3e t b=(match a3i b with|some (u,k)=>some ((t,zag u,[],()),k)|none=>none):=by
     unfold a3e;rw[if_pos ⟨h3,h4⟩];rfl
    unfold c0p;rw[hfv];cases htk:a3i b with
    |none =>
     dsimp only;rw[if_pos (by simp)];exact Gets.some ⟨_,_,rfl⟩
    |some r =>
     obtain⟨u,k⟩:=r;dsimp only;rw[if_neg (by simp),b2x (a2g hb htk).1];exact Gets.some rfl
theorem e7o{n:Nat}{t:Int}{l:List Vl}(hn:l.length<n)(hc:l.length<1000000):d1f n (t,l,())=some ((a1i t l,()),()):=by
 unfold d1f a1i;dsimp only;by_cases h1:t<1
 ·have:¬(1≤t):=by omega
  simp[h1,this]
 by_cases h2:4<t
 ·have:¬(t≤4):=by omega
  simp[h1,h2,this]
 rw[if_neg (by simpa using h1),if_neg (by simpa using h2),b7m l (a0j t) (some ((false,()),())) (some ((true,()),())) hn]
 ·have e1:1≤t:=by omega
  have e2:t≤4:=by omega
  cases l.all (a0j t) <;> simp[e1,e2]
 ·intro rec i hi;rw[if_pos (by simp <;> omega),a0a hi,Ac,a0c hi,a2r,a0b (by omega)];simp only[Ab];unfold a0j;by_cases h3:l[i].1=t
  ·cases mayV l[i] <;> simp[h3]
  ·simp[h3]
 ·intro rec;simp
theorem e3i{n:Nat}{b:List Int}{t:Int}{v:Vl}(h:a0j t v=true)(hv:okV v)(hb:b.length<1000000)(hn:10≤n):c6w n (b,v,())=some ((b++oneV v,()),()):=by
 obtain⟨h1,h2⟩:=a1s h;have hr:=a0p;unfold c6w oneV;dsimp only;by_cases h3:v.1=3
 ·rw[if_pos (by simpa using h3),if_pos (by simp <;> omega),if_pos h3];rw[a3u (by rcases h2 with h2|h2|h2|h2|h2 <;> omega) (by rcases h2 with h2|h2|h2|h2|h2 <;> omega)]
 ·rw[if_neg (by simpa using h3),if_neg h3];by_cases h4:v.1=4
  ·have hl:v.2.2.1.length≤20:=by omega
   rw[if_pos (by simpa using h4),if_pos (by simp <;> omega),if_pos (by simp <;> omega),if_pos h4,a3u (by omega) (by omega)];simp
  ·have h5:=a3r (b6v hv.2.1.1 hv.2.1.2);rw[if_neg (by simpa using h4),if_neg h4,b2z hv.2.1.1 hv.2.1.2];simp only[Ab];rw[a6u (b6v hv.2.1.1 hv.2.1.2) hn];simp only[Ab];rw[if_pos (by omega)]
def errB(msg:List Int):UV:=UV.node a4h (.pair (.str msg) (.pair (UV.sent a1y) .unit))
def c1g(t:Int)(b:List Int)(y:(Vl×Int×UV×Unit)×Unit):Prop :=
 match a3e t b with
 |some (v,k)=>y=((v,(k:Int),UV.nil,()),())
 |none=>∃v msg,y=((v,(0:Int),errB msg,()),())
theorem d0v{n:Nat}{t:Int}{b:List Int}(hb:a1h b)(hl:b.length<1000000)(hn:11≤n):Gets (b8x n (t,b,())) (c1g t b):=by
 unfold b8x;refine Gets.join (I:=fun s=>s=(t,(0:Int),([]:List Int),())∧t=4∧b≠[]) ?_ ?_
 ·rintro _ ⟨rfl,rfl,hne⟩;dsimp only;cases b with
  |nil=>exact absurd rfl hne
  |cons c l =>
   have hc:=hb c (by simp);have e0:(c::l).getD ((0:Int)).toNat (0:Int)=c:=rfl;refine Gets.atI (by omega) (by simp) ?_;rw[e0,a0d (x:=c) (by omega) (by omega),a0d (by omega) (by omega)];have e1:(1+c).toNat=1+c.toNat:=by omega
   by_cases h:1+c.toNat≤(c::l).length
   ·rw[if_neg (by simp at h ⊢;omega),if_pos (by simp at h ⊢;omega)];refine Gets.some ?_;unfold c1g a3e;rw[if_neg (by simp)];dsimp only;rw[if_neg (by decide),if_pos h,e1];dsimp only;rw[show(1+c)=((1+c.toNat:Nat):Int) by omega];rfl
   ·rw[if_pos (by simp at h ⊢;omega)];refine Gets.some ?_;unfold c1g a3e;rw[if_neg (by simp)];dsimp only;rw[if_neg (by decide),if_neg h];exact⟨_,_,rfl⟩
 ·intro J hJ;dsimp only;have two:(t=3∨t=4)→Gets (if(decide ((b.length:Int)=0))=true then(some (((t,(0:Int),([]:List Int),()),(0:Int),(UV.node a4h (.pair (.str [110,111,32,98,121,116,101]) (.pair (UV.sent a1y) .unit))),()),())) else(if(decide (t=3))=true then(atI (0:Int) b.length (some (((t,(Aa.wrap (b.getD (0:Int).toNat (0:Int))),([]:List Int),()),(1:Int),UV.nil,()),()))) else(J (t,(0:Int),([]:List Int),())))) (c1g t b):=by
   intro ht;cases b with
   |nil =>
    rw[if_pos (by simp)];refine Gets.some ?_;unfold c1g a3e;rw[if_neg (by omega)];exact⟨_,_,rfl⟩
   |cons c l =>
    have hc:=hb c (by simp);rw[if_neg (by simp <;> omega)];by_cases h3:t=3
    ·rw[if_pos (by simpa using h3)];refine Gets.atI (by omega) (by simp) (Gets.some ?_);unfold c1g a3e;rw[if_neg (by omega)];dsimp only;rw[if_pos h3,show(c::l).getD ((0:Int)).toNat (0:Int)=c from rfl,a0d (by omega) (by omega)];rfl
    ·rw[if_neg (by simpa using h3)];exact hJ _ ⟨rfl,by omega,by simp⟩
  by_cases h3:t=3
  ·rw[if_neg (by simp[h3])];exact two (.inl h3)
  ·rw[if_pos (by simp[h3])];by_cases h4:t=4
   ·rw[if_neg (by simp[h4])];exact two (.inr h4)
   ·rw[if_pos (by simp[h4]),a4s hb hl hn];simp only[Ab];have hfv:a3e t b=(match a3i b with|some (u,k)=>some ((t,zag u,[],()),k)|none=>none):=by
     unfold a3e;rw[if_pos ⟨h3,h4⟩];rfl
    unfold c1g;rw[hfv];cases htk:a3i b with
    |none =>
     dsimp only;rw[if_pos (by simp)];exact Gets.some ⟨_,_,rfl⟩
    |some r =>
     obtain⟨u,k⟩:=r;dsimp only;rw[if_neg (by simp),b2x (a2g hb htk).1];exact Gets.some rfl
theorem c4a{n:Nat}{t:Int}{l:List Vl}(hv:∀v,v∈l→okV v)(hl:l.length≤1000)(hn:2000≤n) :
  b4t n (t,l,())=some (if a1i t l=true then(l.flatMap oneV,true,()) else([],false,()),()):=by
 have hro:=a0p;unfold b4t;dsimp only;rw[e1m (by omega) (by omega)];simp only[Ab];cases h:a1i t l with
 |false=>rfl
 |true =>
  have hb:=a5g h hv;simp only[Br,AE,if_false,if_true];refine a0i (st:=fun i=>((l.take i).flatMap oneV,(i:Int))) l.length (by simp) ?_ ?_ (by omega)
  ·intro rec i hi;have h2:=a1t (d:=l.take i) fun v hv=>hb v (Bk hv)
   have h3:(l.take i).length≤l.length:=by simp <;> omega
   dsimp only;rw[if_pos (by simp <;> omega),a0a hi,Ac,a0c hi,d6a (hb _ (Aj hi)).1 (hb _ (Aj hi)).2 (by omega) (by omega)];simp only[Ab];rw[a0b (by omega),b6r _ hi]
  ·intro rec;dsimp only;rw[if_neg (by simp),Aq]
theorem c9m{n:Nat}{t:Int}{l:List Vl}(hv:∀v,v∈l→okV v)(hl:l.length≤1000)(hn:2000≤n) :
  c1y n (t,l,())=some (if a1i t l=true then(rleB l,true,()) else([],false,()),()):=by
 have hro:=a0p;unfold c1y;dsimp only;rw[e7o (by omega) (by omega)];simp only[Ab];cases h:a1i t l with
 |false=>rfl
 |true =>
  have hb:=a5g h hv;simp only[Br,AE,if_false,if_true];refine(a8m (I:=fun k (s:List Vl×List Int)=>s.1.length≤k∧k≤1000∧(∀v,v∈s.1→a0j t v=true∧okV v)∧s.2.length+31*k≤40000) (res:=fun s=>some ((s.2++rleB s.1,true,()),())) ?_ n 1000 _ ⟨hl,by omega,hb,by simp⟩ (by omega)).trans (by simp);rintro k ⟨r,acc⟩ rec ⟨h1,h2,h3,h4⟩ hrec;dsimp only at h1 h3 h4 ⊢;cases r with
  |nil=>rw[if_neg (by simp)];simp[c3i]
  |cons v r =>
   simp only[List.length_cons] at h1;have hrn:=c8m v r;rw[if_pos (by simp <;> omega)];refine a9u (I:=fun s q=>s=((1+runN v r:Nat):Int)∧q=some ((acc++rleB (v::r),true,()),())) ?_ ?_
   ·rintro _ _ ⟨rfl,rfl⟩;have hp:=a3r (v:=1+runN v r) (by omega);rw[a2f (by omega),a6u (by omega) (by omega)];simp only[Ab];have h5:=c3f (h3 v (by simp)).1 (h3 v (by simp)).2;rw[if_pos (by omega),a0s (by omega) (by simp <;> omega),show(v::r).getD ((0:Int)).toNat ((0:Int),(0:Int),[],())=v from rfl,e3i (h3 v (by simp)).1 (h3 v (by simp)).2 (by simp <;> omega) (by omega)];simp only[Ab];rw[if_pos (by simp <;> omega)];simp only[Ac,Aq];have hd:(v::r).drop (1+runN v r)=r.drop (runN v r):=by rw[D0,List.drop_succ_cons]
    rw[hd,hrec (k - 1) _ (by omega) ⟨by simp <;> omega,by omega,fun x hx=>h3 x (Ar _ (Bf hx)),by simp <;> omega⟩,b0v];simp
   ·intro J hJ;refine a0i (st:=fun i=>((1+i:Nat):Int)) (runN v r) rfl ?_ ?_ (by omega)
    ·intro rec2 i hi;have hir:i<r.length:=by omega
     have e0:(v::r).getD (((1+i:Nat):Int)).toNat ((0:Int),(0:Int),[],())=v:=by
      rw[Ac,D0,FR];exact e9v v hi
     rw[if_pos (by simp <;> omega),a0a (by simp <;> omega),a0s (by omega) (by simp <;> omega),e0,show(v::r).getD ((0:Int)).toNat ((0:Int),(0:Int),[],())=v from rfl,eqVl,if_pos (by simp),a0b (by omega)];congr 2
    ·intro rec2;by_cases hend:runN v r<r.length
     ·have e0:(v::r).getD (((1+runN v r:Nat):Int)).toNat ((0:Int),(0:Int),[],())=r[runN v r]:=by
       rw[Ac,D0,FR,a0c hend]
      rw[if_pos (by simp <;> omega),a0a (by simp <;> omega),a0s (by omega) (by simp <;> omega),e0,show(v::r).getD ((0:Int)).toNat ((0:Int),(0:Int),[],())=v from rfl,eqVl,if_neg (by simpa using e7n v hend)];exact hJ _ _ ⟨rfl,rfl⟩
     ·rw[if_neg (by simp <;> omega)];exact hJ _ _ ⟨rfl,rfl⟩
theorem c8h{n:Nat}{t:Int}{l:List Vl}(hn:l.length<n)(hc:l.length<1000000):b2n n (t,l,())=some ((decide (t≤3)&&a1i t l,()),()):=by
 unfold b2n a1i;dsimp only;by_cases h1:t<1
 ·have:¬(1≤t):=by omega
  simp[h1,this]
 by_cases h2:3<t
 ·have:¬(t≤3):=by omega
  simp[h1,h2,this]
 rw[if_neg (by simpa using h1),if_neg (by simpa using h2),b7m l (a0j t) (some ((false,()),())) (some ((true,()),())) hn]
 ·have e1:1≤t:=by omega
  have e2:t≤4:=by omega
  have e3:t≤3:=by omega
  cases l.all (a0j t) <;> simp[e1,e2,e3]
 ·intro rec i hi;rw[if_pos (by simp <;> omega),a0a hi,Ac,a0c hi,a2r,a0b (by omega)];simp only[Ab];unfold a0j;by_cases h3:l[i].1=t
  ·cases mayV l[i] <;> simp[h3]
  ·simp[h3]
 ·intro rec;simp
theorem d8s{x m:Int}(hx:-9223372036854775808≤x∧x≤9223372036854775807)(hm:-9223372036854775808≤m∧m≤9223372036854775807)(h:m≤x):Ae.wrap ((Ae.wrap x) - (Ae.wrap m))=x - m:=by
 rw[a2d,a2d,a2d];omega
theorem c6v{n:Nat}{t:Int}{l:List Vl}(hv:∀v,v∈l→okV v)(hl:l.length≤1000)(hn:2000≤n) :
  b7j n (t,l,())=some (if t≤3∧a1i t l=true then(c0g l,true,()) else([],false,()),()):=by
 have hro:=a0p;unfold b7j;dsimp only;rw[c8h (by omega) (by omega)];simp only[Ab];by_cases h:t≤3∧a1i t l=true
 rotate_left
 ·rw[if_neg h,if_pos];simp only[Bool.not_eq_true',Bool.and_eq_false_iff,decide_eq_false_iff_not];rcases Classical.em (t≤3) with h1|h1
  ·exact .inr (by simpa using fun h2=>h ⟨h1,h2⟩)
  ·exact .inl h1
 rw[if_pos h,if_neg (by simp[h.1,h.2])];cases l with
 |nil=>rfl
 |cons v r =>
  obtain⟨l,hlr⟩:∃l,v::r=l:=⟨_,rfl⟩
  have hne:l≠[]:=by rw[←hlr];simp
  have h0:0<l.length:=by rw[←hlr];simp
  have hz:(l.getD ((0:Int)).toNat ((0:Int),(0:Int),[],()))=v:=by rw[←hlr];rfl
  have hL:a3p l=l.foldl (fun m x=>if m≤x.2.1 then m else x.2.1) v.2.1:=by rw[←hlr];rfl
  have hlr2:=b1r hv;have hw64:=b4r hv;rw[hlr] at hlr2 hw64 hv hl h ⊢;rw[if_neg (by simp <;> omega),a0s (by omega) (by omega),hz];refine a0i (st:=fun i=>((l.take i).foldl (fun m x=>if m≤x.2.1 then m else x.2.1) v.2.1,(i:Int))) l.length (by simp) ?_ ?_ (by omega)
  ·intro rec i hi;dsimp only;rw[if_pos (by simp <;> omega),a0a hi,Ac,a0c hi,a0b (by omega),Am hi,Cy];rfl
  ·intro rec;dsimp only;rw[if_neg (by simp),Aq,←hL];refine a0i (st:=fun i=>((l.take i).map (fun v=>v.2.1 - a3p l),(i:Int))) l.length (by simp) ?_ ?_ (by omega)
   ·intro rec2 i hi;have hm:=Aj hi;dsimp only;rw[if_pos (by simp <;> omega),a0a hi,Ac,a0c hi,d8s (hv _ hm).2.1 hlr2 (d9g hm),if_pos (by simp <;> omega),a0b (by omega),map_take _ hi]
   ·intro rec2;dsimp only;have habove:(l.take l.length).map (fun v=>v.2.1 - a3p l)=a1u l:=by rw[Aq];rfl
    have hnum:Nums (a1u l):=b8m hv;rw[if_neg (by simp),habove,b5o hnum (by rw[a2y];omega) (by rw[a2y];omega)];simp only[Ab];rw[b8t hnum (by rw[a2y];omega) (by omega) (by rw[a2y];omega),if_pos ⟨hw64,Av _⟩];simp only[Ab];rw[b2z hlr2.1 hlr2.2];simp only[Ab];have hzl:=b6v hlr2.1 hlr2.2;have hp:=a3r hzl;rw[a6u hzl (by omega)];simp only[Ab];have hmul:l.length*a2v (a1u l)≤l.length*64:=Dg _ hw64;rw[if_pos (by simp <;> omega),if_pos (by simp only[Ap,AZ,a4b,a2y];omega),b5r (by omega),b1x hne];simp
theorem f6h{last x:Int}(hl:-9223372036854775808≤last∧last≤9223372036854775807):Aa.wrap (Ae.wrap ((Ae.wrap x) - (Ae.wrap last)))=c8p last x:=by
 unfold c8p;rw[a3g,a3g,a2d,a2d,a2d];omega
theorem e7p{x:Int}(hx:-9223372036854775808≤x∧x≤9223372036854775807):Aa.wrap (Ae.wrap x)=x:=by
 rw[a3g,a2d];omega
theorem c4e{n:Nat}{t:Int}{l:List Vl}(hv:∀v,v∈l→okV v)(hl:l.length≤1000)(hn:2000≤n) :
  b5b n (t,l,())=some (if t≤2∧a1i t l=true then(a6a 0 l,true,()) else([],false,()),()):=by
 have hro:=a0p;have hR:t=1∨t=2→(a1i t l=l.all (a0j t)):=by
  intro h;unfold a1i;have e1:1≤t:=by omega
  have e2:t≤4:=by omega
  simp[e1,e2]
 have hmain:t=1∨t=2→a0h (fun rec4 (s3:List Int×Int×Int)=>(if(decide (s3.2.2<(l.length:Int)))=true then(atI s3.2.2 l.length (if(!decide ((l.getD s3.2.2.toNat ((0:Int),(0:Int),[],())).1=t))=true then(some (([],false,()),())) else((a3f n ((l.getD s3.2.2.toNat ((0:Int),(0:Int),[],())),())).bind fun y5=>(if(!y5.1.1)=true then(some (([],false,()),())) else((b0s n ((Aa.wrap (Ae.wrap ((Ae.wrap (((l.getD s3.2.2.toNat ((0:Int),(0:Int),[],())).2).1)) - s3.2.1))),())).bind fun y6=>((a6s n (y6.1.1,())).bind fun y7=>(if(s3.1.length+y7.1.1.length)*1≤room then(rec4 ((s3.1++y7.1.1),(Ae.wrap (((l.getD s3.2.2.toNat ((0:Int),(0:Int),[],())).2).1)),(Aa.wrap (s3.2.2+1)))) else none))))))) else(some ((s3.1,true,()),())))) n ([],(0:Int),(0:Int))=some (if t≤2∧a1i t l=true then(a6a 0 l,true,()) else([],false,()),()):=by
  intro ht;refine(a8m (I:=fun k (s:List Int×Int×Int)=>∃(i:Nat) (last:Int),s.2=(Ae.wrap last,(i:Int))∧i+k=l.length∧(-9223372036854775808≤last∧last≤9223372036854775807)∧s.1.length+10*k≤20000)
   (res:=fun s=>some (if(l.drop s.2.2.toNat).all (a0j t)=true then(s.1++a6a (Aa.wrap s.2.1) (l.drop s.2.2.toNat),true,()) else([],false,()),())) ?_ n l.length _ ⟨0,0,rfl,by omega,by omega,by simp <;> omega⟩ (by omega)).trans ?_
  ·rintro k ⟨acc,q⟩ rec ⟨i,last,rfl,h1,h2,h3⟩ hrec;dsimp only at h3 ⊢;rw[e7p h2,Ac];cases k with
   |zero =>
    rw[if_neg (by simp <;> omega),C0.2 (by omega)];simp[a6a]
   |succ k =>
    have hi:i<l.length:=by omega
    have hm:=Aj hi;rw[if_pos (by simp <;> omega),a0a hi,a0c hi,A7 hi,List.all_cons];by_cases h4:l[i].1=t
    rotate_left
    ·rw[if_pos (by simpa using h4)];have:a0j t l[i]=false:=by unfold a0j;simp[h4]
     rw[this];simp
    rw[if_neg (by simpa using h4),a2r];simp only[Ab];cases h5:mayV l[i] with
    |false =>
     have:a0j t l[i]=false:=by unfold a0j;simp[h5]
     rw[if_pos (by simp),this];simp
    |true =>
     have h6:a0j t l[i]=true:=by unfold a0j;simp[h4,h5]
     have h7:=b9o last l[i].2.1;have h8:=a3r (a8c last l[i].2.1);rw[if_neg (by simp),f6h h2,b2z h7.1 h7.2];simp only[Ab];rw[a6u (a8c last l[i].2.1) (by omega)];simp only[Ab];rw[if_pos (by omega),a0b (by omega),hrec k _ (by omega) ⟨i+1,l[i].2.1,rfl,by omega,(hv _ hm).2.1,by simp <;> omega⟩,h6];dsimp only;rw[e7p (hv _ hm).2.1,Ac];simp only[Bd,a6a,Al]
  ·dsimp only;rw[hR ht,show Aa.wrap 0=0 by decide];have e2:t≤2:=by omega
   rw[show Int.toNat 0=0 from rfl,Dk];by_cases hh:l.all (a0j t)=true
   ·rw[if_pos hh,if_pos ⟨e2,hh⟩];rfl
   ·rw[if_neg hh,if_neg fun h=>hh h.2]
 unfold b5b b1j;dsimp only;by_cases h1:t=1
 ·rw[if_neg (by simpa using h1)];exact hmain (.inl h1)
 ·rw[if_pos (by simpa using h1)];by_cases h2:t=2
  ·rw[if_neg (by simpa using h2)];exact hmain (.inr h2)
  ·rw[if_pos (by simpa using h2),if_neg];rintro⟨h3,h4⟩;have:=(a2m h4).1;omega
end Go.Rb.R5

namespace Go.Rb.R5
open Go.Rb
theorem g7a{R:Type}{o:Option R}{r:R}(h:Gets o fun y=>y=r):o=some r:=by
 obtain⟨y,h1,rfl⟩:=h;exact h1
def isT(t:Int):Bool:=decide (1≤t)&&decide (t≤4)
theorem d2n{t:Int}:isT t=true↔1≤t∧t≤4:=by simp[isT]
theorem b0r(n:Nat)(t:Int):a3h n (t,())=some ((isT t,()),()):=by
 unfold a3h isT;dsimp only;by_cases h:1≤t <;> simp[h]
theorem b4i(n:Nat)(v:Vl):a4y n (v,())=some ((mayV v,()),()):=by
 obtain⟨a,b,c,u⟩:=v;unfold a4y mayV;dsimp only;by_cases h1:a=1
 ·subst h1;by_cases h2:-32768≤b
  ·by_cases h3:b≤32767 <;> simp[h2,h3]
  ·simp[h2]
 ·by_cases h2:a=2
  ·subst h2;simp
  ·by_cases h3:a=0
   ·subst h3;by_cases h4:b=0 <;> simp[h4]
   ·by_cases h4:a=3
    ·subst h4;by_cases h5:b=0
     ·simp[h5]
     ·by_cases h6:b=1 <;> simp[h5,h6]
    ·by_cases h5:a=4
     ·subst h5;by_cases h6:b=0
      ·have:((c.length:Int)≤20)↔c.length≤20:=by omega
       simp[h6,this]
      ·simp[h6]
     ·simp[h1,h2,h3,h4,h5]
theorem a6z{n v:Nat}(hv:v<18446744073709551616)(hn:10≤n):a2p n ((v:Int),())=some ((putN v,()),()):=by
 unfold a2p;refine(a8m (I:=fun k (s:Int×List Int)=>∃v:Nat,s.1=(v:Int)∧v<128 ^ (k+1)∧v<18446744073709551616∧s.2.length+k≤1000)
  (res:=fun s=>some ((s.2++putN s.1.toNat,()),())) ?_ n 9 _ ⟨v,rfl,by omega,hv,by simp⟩ (by omega)).trans (by simp)
 rintro k ⟨a,acc⟩ rec ⟨v,rfl,h1,h2,h3⟩ hrec;dsimp only at h3;have hr:=a0p;dsimp only;by_cases h:v<128
 ·rw[if_neg (by simp;omega),if_pos (by simp;omega)];rw[Ac,a4x h,b5r (by omega)]
 ·obtain⟨k,rfl⟩:∃k',k=k'+1:=⟨k - 1,by
   rcases Cm k with h0|h0
   ·subst h0;omega
   ·omega⟩
  rw[if_pos (by simp;omega),if_pos (by simp;omega)];have e1:Ah.wrap ((Ah.wrap ((v:Int).tmod (128:Int)))+128)=((v % 128+128:Nat):Int):=by
   rw[show(v:Int).tmod (128:Int)=((v % 128:Nat):Int) from a9k v 128,b5r (by omega),show(((v % 128:Nat):Int)+128)=((v % 128+128:Nat):Int) by omega,b5r (by omega)]
  have e2:Ae.wrap ((v:Int).tdiv (128:Int))=((v / 128:Nat):Int):=by
   rw[show(v:Int).tdiv (128:Int)=((v / 128:Nat):Int) from a5m v 128,a2f (by omega)]
  rw[e1,e2];rw[hrec k _ (by omega) ⟨v / 128,rfl,by rw[BL] at h1;omega,by omega,by simp;omega⟩];simp only[Ac];rw[a9m (v:=v) (by omega)];simp
theorem c8n{v:Int}(h1:-9223372036854775808≤v)(h2:v≤9223372036854775807)(n:Nat):a9z n (v,())=some ((((zig v:Nat):Int),()),()):=by
 unfold a9z zig;dsimp only;by_cases h:v<0
 ·rw[if_pos (by simpa using h),if_neg (by omega),a0d (x:=v+1) (by omega) (by omega),a0d (x:=0 - (v+1)) (by omega) (by omega)];simp only[a2d];congr 3;omega
 ·rw[if_neg (by simpa using h),if_pos (by omega)];simp only[a2d];congr 3;omega
theorem c8q{u:Nat}(h:u<18446744073709551616)(n:Nat):b4g n ((u:Int),())=some ((zag u,()),()):=by
 unfold b4g zag;dsimp only;rw[show((u:Int)).tmod (2:Int)=((u % 2:Nat):Int) from a9k u 2,show((u:Int)).tdiv (2:Int)=((u / 2:Nat):Int) from a5m u 2,a2f (by omega),a0q (by omega)];by_cases h1:u % 2=0
 ·rw[if_neg (by simp;omega),if_pos h1]
 ·rw[if_pos (by simp;omega),if_neg h1,a0d (x:=0 - ((u / 2:Nat):Int)) (by omega) (by omega),a0d (by omega) (by omega)];congr 3;omega
def c8t:List Int→Nat
 |[]=>0
 |x::l=>x.toNat % 128+128*c8t l
theorem f7g:∀v,c8t (putN v)=v:=by
 intro v
 induction v using DH with
 |ind v ih =>
  by_cases h:v<128
  ·rw[a4x h];simp[c8t];omega
  ·rw[a9m (by omega)];simp only[c8t,Ac];rw[ih (v / 128) (by omega)];omega
theorem d6z:∀(v i:Nat) (hi:i<(putN v).length),(i+1<(putN v).length→128≤(putN v)[i])∧(i+1=(putN v).length→(putN v)[i]<128):=by
 intro v
 induction v using DH with
 |ind v ih =>
  intro i hi;by_cases h:v<128
  ·have e:=a4x h;rw[Dj e];have hl:(putN v).length=1:=by rw[e];rfl
   have:i=0:=by omega
   subst this;simp;omega
  ·have e:=a9m (show 128≤v by omega);rw[Dj e];have hl:(putN v).length=(putN (v / 128)).length+1:=by rw[e];rfl
   have h1:=b6o (v / 128);cases i with
   |zero =>
    simp only[List.getElem_cons_zero];omega
   |succ i =>
    simp only[List.getElem_cons_succ];have:=ih (v / 128) (by omega) i (by omega);exact⟨fun h=>this.1 (by omega),fun h=>this.2 (by omega)⟩
theorem c5b{b:List Int}(hb:a1h b){v k:Nat}(h:a3i b=some (v,k)):1≤k∧k≤10∧k≤b.length∧b.take k=putN v∧v<18446744073709551616∧∀i (hi:i<b.length),(i+1<k→128≤b[i])∧(i+1=k→b[i]<128):=by
 obtain⟨h1,h2,h3⟩:=a2g hb h;obtain⟨h4,_⟩:=b1y hb h;have h5:=b6o v;have h6:=a3r h1;refine⟨by omega,by omega,h2,h3,h1,fun i hi=>?_⟩;have key:∀(hik:i<k),b[i]=(putN v)[i]'(by omega):=by
  intro hik;rw[←Dj h3 (by rw[AC];omega),CH]
 exact⟨fun hk=>by rw[key (by omega)];exact(d6z v i (by omega)).1 (by omega),fun hk=>by rw[key (by omega)];exact(d6z v i (by omega)).2 (by omega)⟩
theorem a5v{n:Nat}{b:List Int}(hb:a1h b)(hl:b.length<1000000)(hn:13≤n) :
  a3x n (b,())=some (match a3i b with|some (v,k)=>((v:Int),(k:Int),true,())|none=>(0,0,false,()),()):=by
 apply g7a;unfold a3x;dsimp only;refine Gets.iter (I:=fun s:Int=>∃i:Nat,s=((i+1:Nat):Int)∧i≤10∧i≤b.length∧∀j (hj:j<b.length),j<i→128≤b[j]) (μ:=fun s=>12 - s.toNat) ⟨0,rfl,by omega,by omega,by omega⟩ (by simp;omega) ?_;rintro rec _ ⟨i,rfl,hi1,hi2,hall⟩ hrec;have stop:(10≤i∨b.length≤i)→a3i b=none:=by
  intro h;cases htk:a3i b with
  |none=>rfl
  |some r =>
   obtain⟨v,k⟩:=r;obtain⟨g1,g2,g3,_,_,g4⟩:=c5b hb htk;have h1:=(g4 (k - 1) (by omega)).2 (by omega);have h2:=hall (k - 1) (by omega) (by omega);omega
 by_cases h10:i<10
 rotate_left
 ·rw[if_neg (by simp;omega),stop (by omega)];exact Gets.some rfl
 rw[if_pos (by simp;omega)];by_cases hlen:i<b.length
 rotate_left
 ·rw[if_neg (by simp;omega),stop (by omega)];exact Gets.some rfl
 have e0:Aa.wrap (((i+1:Nat):Int) - 1)=(i:Int):=by rw[show(((i+1:Nat):Int) - 1)=(i:Int) by omega,a0q (by omega)]
 obtain⟨c,hc1,hc2,hc3⟩:=hb.get (i:=i) hlen;rw[if_pos (by simp;omega),e0,a0a hlen,Ac,hc1];by_cases hc:128≤c
 ·rw[if_pos (by simp;omega),a0b (by omega)];refine hrec _ ⟨i+1,rfl,by omega,by omega,fun j hj hji=>?_⟩ (by simp;omega);rcases AY j i with h|h
  ·exact hall j hj h
  ·obtain rfl:j=i:=by omega
   omega
 rw[if_neg (by simp;omega)];have hHlt:c8t (b.take (i+1)) % 18446744073709551616<18446744073709551616:=Gm _ (by omega);have fin:∀s4:Int×Int,s4=(((c8t (b.take (i+1)) % 18446744073709551616:Nat):Int),(-1:Int))→Gets ((a2p n (s4.1,())).bind fun y5=>(if 0≤((i+1:Nat):Int)∧((i+1:Nat):Int)≤(b.length:Int) then(if(!decide (y5.1.1=((b.take ((i+1:Nat):Int).toNat).drop (0:Int).toNat)))=true then(some (((0:Int),(0:Int),false,()),())) else(some ((s4.1,((i+1:Nat):Int),true,()),()))) else none)) (fun y=>y=(match a3i b with|some (v,k)=>((v:Int),(k:Int),true,())|none=>(0,0,false,()),())):=by
  rintro _ rfl;dsimp only;rw[a6z hHlt (by omega)];simp only[Ab];rw[if_pos (by omega),Ac];by_cases heq:putN (c8t (b.take (i+1)) % 18446744073709551616)=b.take (i+1)
  ·rw[if_neg (by simp[heq])];have e:a3i b=some (c8t (b.take (i+1)) % 18446744073709551616,i+1):=by
    have h1:=a5b (c8t (b.take (i+1)) % 18446744073709551616) (b.drop (i+1)) hHlt;rw[heq,List.take_append_drop,AC,Nat.min_eq_left (by omega)] at h1;exact h1
   rw[e];exact Gets.some rfl
  ·rw[if_pos (by simpa using heq)];have e:a3i b=none:=by
    cases htk:a3i b with
    |none=>rfl
    |some r =>
     obtain⟨v,k⟩:=r;obtain⟨g1,g2,g3,g5,g6,g4⟩:=c5b hb htk;have hk:k=i+1:=by
      rcases Nat.lt_trichotomy k (i+1) with h|h|h
      ·have h1:=(g4 (k - 1) (by omega)).2 (by omega);have h2:=hall (k - 1) (by omega) (by omega);omega
      ·exact h
      ·have h1:=(g4 i (by omega)).1 h;omega
     subst hk;exact absurd (by rw[g5,f7g,C5 g6]) heq
   rw[e];exact Gets.some rfl
 refine Gets.iter (I:=fun s:Int×Int=>∃j:Nat,j≤i+1∧s=(((c8t ((b.take (i+1)).drop j) % 18446744073709551616:Nat):Int),(j:Int) - 1)) (μ:=fun s=>(s.2+1).toNat) ⟨i+1,by omega,?_⟩ (by simp;omega) ?_
 ·have:(b.take (i+1)).drop (i+1)=[]:=by rw[C0];simp;omega
  rw[this];simp[c8t]
 ·rintro rec2 _ ⟨j,hj,rfl⟩ hrec2;dsimp only;cases j with
  |zero =>
   rw[if_neg (by simp)];exact fin (((c8t ((b.take (i+1)).drop 0) % 18446744073709551616:Nat):Int),((0:Nat):Int) - 1) (by simp)
  |succ j =>
   have hjl:j<(b.take (i+1)).length:=by simp;omega
   obtain⟨d,hd1,hd2,hd3⟩:=hb.get (i:=j) (by omega);have hcons:(b.take (i+1)).drop j=(d:Int)::(b.take (i+1)).drop (j+1):=by
    rw[A7 hjl,CH,hd3]
   have ej:(((j+1:Nat):Int) - 1)=(j:Int):=by omega
   rw[ej,if_pos (by simp),a0a (by omega),Ac,hd1];refine hrec2 _ ⟨j,by omega,?_⟩ (by dsimp only;rw[a0d (x:=(j:Int) - 1) (by omega) (by omega)];omega);rw[hcons];simp only[c8t,Ac];rw[a0d (x:=(j:Int) - 1) (by omega) (by omega),show((d:Int)).tmod (128:Int)=((d % 128:Nat):Int) from a9k d 128];simp only[a2d];congr 1;omega
theorem b6d{n v:Nat}(hv:v<18446744073709551616)(hn:64<n):a9y n ((v:Int),())=some ((((blen v:Nat):Int),()),()):=by
 unfold a9y;refine(a8m (I:=fun k (s:Int×Int)=>∃v m:Nat,s=((v:Int),(m:Int))∧v<2 ^ k∧v<18446744073709551616∧m+k≤1000)
  (res:=fun s=>some ((s.2+((blen s.1.toNat:Nat):Int),()),())) ?_ n 64 _ ⟨v,0,rfl,by omega,hv,by omega⟩ (by omega)).trans (by simp)
 rintro k _ rec ⟨v,m,rfl,h1,h2,h3⟩ hrec;dsimp only;by_cases h:v=0
 ·subst h;rw[if_neg (by simp)];simp[d5e]
 ·obtain⟨k,rfl⟩:∃k',k=k'+1:=⟨k - 1,by
   rcases Cm k with h0|h0
   ·subst h0;simp at h1;omega
   ·omega⟩
  rw[if_pos (by simp;omega),show((v:Int)).tdiv (2:Int)=((v / 2:Nat):Int) from a5m v 2,a2f (by omega),a0b (by omega)];rw[hrec k _ (by omega) ⟨v / 2,m+1,rfl,by rw[BL] at h1;omega,by omega,by omega⟩];simp only[Ac];rw[d1o (v:=v) (by omega)];congr 3;omega
theorem c9j{n:Nat}{l:List Int}(hl:Nums l)(hn:l.length<n)(hn2:64<n)(hc:l.length<1000000):a9v n (l,())=some ((((a2v l:Nat):Int),()),()):=by
 unfold a9v;dsimp only;refine a0i (st:=fun i=>(((a2v (l.take i):Nat):Int),(i:Int))) l.length (by simp[a2v]) ?_ ?_ hn
 ·intro rec i hi;have hx:=hl _ (Aj hi);dsimp only;rw[if_pos (by simp;omega),a0a hi,Ac,a0c hi];obtain⟨v,hv⟩:∃v:Nat,l[i]=(v:Int):=⟨_,(A2 hx.1).symm⟩
  rw[hv,b6d (by omega) hn2];simp only[Ab];rw[a0b (by omega)];congr 2;rw[Am hi];unfold a2v;rw[Cy];simp only[BK,GH,hv,Ac];split <;> omega
 ·intro rec;simp
theorem e2w{m:Nat}(h:m<1000000000):Aa.wrap ((Aa.wrap ((m:Int)+7)).tdiv (8:Int))=(((m+7) / 8:Nat):Int):=by
 rw[show((m:Int)+7)=((m+7:Nat):Int) by omega,a0q (by omega),show((8:Int))=((8:Nat):Int) from rfl,a5m,a0q (by omega)]
theorem b2j{n:Nat}{l:List Int}{w:Nat}(hl:Nums l)(hn:l.length<n)(hnw:64<n)(hc:l.length<100000) :
  a5r n (l,(w:Int),())=some (if w≤64∧a2v l≤w then(a7i l w,true,()) else([],false,()),()):=by
 unfold a5r;dsimp only;rw[if_neg (by simp)];by_cases hw:w≤64
 rotate_left
 ·rw[if_pos (by simp;omega),if_neg (by omega)]
 rw[if_neg (by simp;omega),c9j hl hn hnw (by omega)];simp only[Ab];by_cases hwl:a2v l≤w
 rotate_left
 ·rw[if_pos (by simp;omega),if_neg (by omega)]
 rw[if_neg (by simp;omega),if_pos (c:=w≤64∧a2v l≤w) ⟨hw,hwl⟩];have hmul:l.length*w≤l.length*64:=Dg _ hw;have hr:=a0p;rw[show((l.length:Int)*(w:Int))=((l.length*w:Nat):Int) by push_cast;rfl,a0q (x:=l.length*w) (by omega),e2w (by omega)];rw[if_pos (by refine⟨by omega,by omega,?_⟩;omega)];have hb:=b6y l w;refine a0i (st:=fun i=>(a6i (bitL l w) ((l.length*w+7) / 8) (i*w),(i:Int))) l.length (by rw[EA,c1s,Ac];rfl) ?_ ?_ hn
 ·intro rec i hi;have hiw:i*w+w≤l.length*w:=by
   have:=An w (show i+1≤l.length from hi);rwa [Bi,CA] at this
  have hx:=hl _ (Aj hi);obtain⟨v,hv⟩:∃v:Nat,l[i]=(v:Int):=⟨_,(A2 hx.1).symm⟩
  dsimp only;rw[if_pos (by simp;omega),a0a hi,Ac,a0c hi,hv];refine a0i (st:=fun k=>(a6i (bitL l w) ((l.length*w+7) / 8) (i*w+k),((v / 2 ^ k:Nat):Int),(k:Int))) w (by simp) ?_ ?_ (by omega)
  ·intro rec2 k hk;dsimp only;rw[if_pos (by simp;omega)];have e1:Aa.wrap ((Aa.wrap ((i:Int)*(w:Int)))+(k:Int))=((i*w+k:Nat):Int):=by
    rw[show((i:Int)*(w:Int))=((i*w:Nat):Int) by push_cast;rfl,a0q (by omega),show(((i*w:Nat):Int)+(k:Int))=((i*w+k:Nat):Int) by omega,a0q (by omega)]
   have e2:(((i*w+k:Nat):Int)).tdiv (8:Int)=(((i*w+k) / 8:Nat):Int):=by
    rw[show((8:Int))=((8:Nat):Int) from rfl,a5m]
   have e3:(((i*w+k:Nat):Int)).tmod (8:Int)=(((i*w+k) % 8:Nat):Int):=by
    rw[show((8:Int))=((8:Nat):Int) from rfl,a9k]
   have hlt:(i*w+k) / 8<(l.length*w+7) / 8:=by omega
   rw[e1,e2,e3,a0q (x:=(i*w+k) / 8) (by omega),a0a (by rw[a8e];exact hlt),if_neg (by omega),a0a (by rw[a8e];exact hlt)];simp only[Ac];rw[a0b (by omega)];have hv2:v / 2 ^ k≤v:=D6 _ _;have e4:Ae.wrap (((v / 2 ^ k:Nat):Int).tdiv (2:Int))=((v / 2 ^ (k+1):Nat):Int):=by
    rw[show(((v / 2 ^ k:Nat):Int)).tdiv (2:Int)=((v / 2 ^ k / 2:Nat):Int) from a5m _ 2,a2f (by omega),Nat.div_div_eq_div_mul,BL]
   rw[e4];congr 2;rw[show i*w+(k+1)=i*w+k+1 by omega,←c0y hlt];congr 1;have hsm:=c1m hb (i*w+k);have hp8:2 ^ ((i*w+k) % 8)≤2 ^ 7:=Bn (by omega) (by omega);have hbit:bitL l w (i*w+k)=v / 2 ^ k % 2:=by
    unfold bitL;rw[mul_add_div hk,mul_add_mod hk,a0c hi,hv,Ac]
   have h3:(((v / 2 ^ k:Nat):Int)).tmod (2:Int)=((v / 2 ^ k % 2:Nat):Int):=a9k _ 2;have h4:=d3x (v / 2 ^ k % 2) ((i*w+k) % 8) 8 (by omega);rw[Ac] at h4;have h5:v / 2 ^ k % 2*2 ^ ((i*w+k) % 8)≤1*2 ^ ((i*w+k) % 8):=An _ (by omega);rw[b5n hlt,h3,b5r (x:=v / 2 ^ k % 2) (by omega),show Ah.bits=8 from rfl,h4,b5r (x:=v / 2 ^ k % 2*2 ^ ((i*w+k) % 8)) (by omega),hbit];rw[show(((b2u (bitL l w) (i*w+k) ((i*w+k) / 8):Nat):Int)+((v / 2 ^ k % 2*2 ^ ((i*w+k) % 8):Nat):Int))=((b2u (bitL l w) (i*w+k) ((i*w+k) / 8)+v / 2 ^ k % 2*2 ^ ((i*w+k) % 8):Nat):Int) by push_cast;rfl,b5r (by omega)]
  ·intro rec2;dsimp only;rw[if_neg (by simp),a0b (by omega),show i*w+w=(i+1)*w by rw[Bi,CA]]
 ·intro rec;dsimp only;rw[if_neg (by simp)];rfl
def b5c(b:List Int)(n w i j:Nat):List Int:=(AA n).map fun k=>if k<i then((a5q (bitB b) (k*w) w:Nat):Int) else if k=i then((a5q (bitB b) (k*w+j) (w - j):Nat):Int) else 0
theorem b0o{n:Nat}{b:List Int}{m w:Int}(hb:a1h b)(hl:b.length<1000000)(hn:64001<n):a6d n (b,m,w,())=some (b5s b m w,()):=by
 unfold a6d b5s;dsimp only;by_cases h1:m<0
 ·rw[if_pos (by simpa using h1),if_neg (by omega)]
 rw[if_neg (by simpa using h1)];by_cases h2:1000<m
 ·rw[if_pos (by simpa using h2),if_neg (by omega)]
 rw[if_neg (by simpa using h2)];by_cases h3:w<0
 ·rw[if_pos (by simpa using h3),if_neg (by omega)]
 rw[if_neg (by simpa using h3)];by_cases h4:64<w
 ·rw[if_pos (by simpa using h4),if_neg (by omega)]
 rw[if_neg (by simpa using h4)];obtain⟨M,rfl⟩:∃M:Nat,m=(M:Int):=⟨_,(A2 (by omega)).symm⟩
 obtain⟨W,rfl⟩:∃W:Nat,w=(W:Int):=⟨_,(A2 (by omega)).symm⟩
 simp only[Ac];have hmul:M*W≤1000*64:=DJ (by omega) (by omega);have hr:=a0p;rw[show((M:Int)*(W:Int))=((M*W:Nat):Int) by push_cast;rfl,a0q (x:=M*W) (by omega),e2w (by omega)];by_cases h5:b.length=(M*W+7) / 8
 rotate_left
 ·rw[if_pos (by simp;omega),if_neg (by omega)]
 rw[if_neg (by simp;omega),if_pos (c:=0≤(M:Int)∧(M:Int)≤(M:Int)∧(M:Int)*8≤(room:Int)) (by omega)];refine a0i (st:=fun i=>(b5c b M W i W,(i:Int))) M ?_ ?_ ?_ (by omega)
 ·have:b5c b M W 0 W=Ag M 0:=by
   apply Bm
   ·simp[b5c]
   ·intro i q1 q2;simp[b5c,a5q]
  rw[this];rfl
 ·intro rec i hi;have hiw:i*W+W≤M*W:=by
   have:=An W (show i+1≤M from hi);rwa [Bi,CA] at this
  have hnlen:∀i j,(b5c b M W i j).length=M:=by intro i j;simp[b5c]
  dsimp only;rw[if_pos (by simp;omega)];refine a0i (st:=fun t=>(b5c b M W i (W - t),((W - t:Nat):Int) - 1)) W ?_ ?_ ?_ (by omega)
  ·rw[Jl,a0d (by omega) (by omega)]
  ·intro rec2 t ht;obtain⟨j,hj⟩:∃j,W - t=j+1:=⟨W - t - 1,by omega⟩
   have hj2:W - (t+1)=j:=by omega
   dsimp only;rw[hj,hj2,show(((j+1:Nat):Int) - 1)=(j:Int) by omega,if_pos (by simp)];have e1:Aa.wrap ((Aa.wrap ((i:Int)*(W:Int)))+(j:Int))=((i*W+j:Nat):Int):=by
    rw[show((i:Int)*(W:Int))=((i*W:Nat):Int) by push_cast;rfl,a0q (by omega),show(((i*W:Nat):Int)+(j:Int))=((i*W+j:Nat):Int) by omega,a0q (by omega)]
   have e4:(((i*W+j:Nat):Int)).tdiv (8:Int)=(((i*W+j) / 8:Nat):Int):=a5m _ 8;have e5:(((i*W+j:Nat):Int)).tmod (8:Int)=(((i*W+j) % 8:Nat):Int):=a9k _ 8;rw[e1,e4,e5,a0q (x:=(i*W+j) / 8) (by omega),a0a (by rw[hnlen];exact hi),a0a (by omega),if_neg (by omega),a0a (by rw[hnlen];exact hi)];simp only[Ac];rw[a0d (x:=(j:Int) - 1) (by omega) (by omega)];congr 2;obtain⟨c,hc1,hc2,hc3⟩:=hb.get (i:=(i*W+j) / 8) (by omega);have hbit:bitB b (i*W+j)=c / 2 ^ ((i*W+j) % 8) % 2:=by
    unfold bitB;rw[hc1,Ac]
   have h6:=f9w c ((i*W+j) % 8) (by omega);rw[Ac] at h6;have h7:(((c / 2 ^ ((i*W+j) % 8):Nat):Int)).tmod (2:Int)=((c / 2 ^ ((i*W+j) % 8) % 2:Nat):Int):=a9k _ 2;have hget:(b5c b M W i (j+1)).getD i 0=((a5q (bitB b) (i*W+(j+1)) (W - (j+1)):Nat):Int):=by
    rw[a0c (by rw[hnlen];exact hi)];simp[b5c]
   have hlt:=b9q (c8g b) (i*W+(j+1)) (W - (j+1));have hp:2 ^ (W - (j+1))≤2 ^ 63:=Bn (by omega) (by omega);rw[hget,hc1,h6,h7,←hbit,a2f (x:=bitB b (i*W+j)) (by have:=c8g b (i*W+j);omega),show((2:Int)*((a5q (bitB b) (i*W+(j+1)) (W - (j+1)):Nat):Int))=((2*a5q (bitB b) (i*W+(j+1)) (W - (j+1)):Nat):Int) by push_cast;rfl,a2f (by omega)];have hlow:=c6x (bitB b) (i*W+j) (W - (j+1));rw[show W - (j+1)+1=W - j by omega] at hlow;have hble:=c8g b (i*W+j);rw[show(((2*a5q (bitB b) (i*W+(j+1)) (W - (j+1)):Nat):Int)+((bitB b (i*W+j):Nat):Int))=((a5q (bitB b) (i*W+j) (W - j):Nat):Int) by rw[hlow,show i*W+(j+1)=i*W+j+1 by omega];push_cast;omega,a2f (by rw[hlow,show i*W+j+1=i*W+(j+1) by omega];omega)];apply Bm
   ·simp[b5c]
   ·intro k q1 q2;rw[Ee];simp only[b5c,Bj,BT];by_cases hk:i=k
    ·subst hk;rw[if_pos rfl,if_neg (by omega),if_pos rfl]
    ·rw[if_neg hk];by_cases hk2:k<i
     ·rw[if_pos hk2,if_pos hk2]
     ·rw[if_neg hk2,if_neg hk2,if_neg (by omega),if_neg (by omega)]
  ·intro rec2;dsimp only;rw[if_neg (by simp),a0b (by omega)];congr 2;apply Bm
   ·simp[b5c]
   ·intro k q1 q2;simp only[b5c,Bj,BT,CV];by_cases hk:k<i
    ·rw[if_pos hk,if_pos (by omega)]
    ·rw[if_neg hk];by_cases hk2:k=i
     ·subst hk2;rw[if_pos rfl,if_pos (by omega)];simp
     ·rw[if_neg hk2,if_neg (by omega)];by_cases hk3:k=i+1
      ·rw[if_pos hk3];simp[a5q]
      ·rw[if_neg hk3]
 ·intro rec;dsimp only;have hall:b5c b M W M W=b1n b M W:=by
   unfold b5c b1n;apply C8;intro i hi;have hi':i<M:=by simpa using hi
   rw[if_pos hi']
  rw[if_neg (by simp),hall,b2j (b4f (by omega)) (by rw[b1e];omega) (by omega) (by rw[b1e];omega),if_pos ⟨by omega,d1x⟩];simp only[Ab];by_cases h6:a7i (b1n b M W) W=b
  ·rw[if_neg (by simp[h6]),if_pos ⟨by omega,by omega,by omega,by omega,h5,h6⟩]
  ·rw[if_pos (by simp[h6]),if_neg (fun h=>h6 h.2.2.2.2.2)]
end Go.Rb.R5

namespace Go.Rb.R5
open Go.Rb
theorem c5e(n:Nat)(t:Int)(v:Vl):a9t n (t,v,())=some ((mayV v&&(isT t&&(decide (v.1=0)||decide (v.1=t))),()),()):=by
 unfold a9t;dsimp only;rw[b4i,b0r];simp only[Ab];cases mayV v <;> cases isT t <;> by_cases h:v.1=0 <;> simp[h]
theorem e2s{n:Nat}{t:Int}{l:List Vl}(hn:l.length<n)(hc:l.length<1000000):b6u n (t,l,())=some ((a1i t l,()),()):=by
 unfold b6u;dsimp only;rw[b7m l (fun v=>isT t&&a0j t v) (some ((false,()),())) (some ((isT t,()),())) hn]
 ·unfold a1i;cases h:isT t with
  |true =>
   have h1:(decide (1≤t)&&decide (t≤4))=true:=h;rw[h1];simp only[Bd];cases hh:l.all (a0j t) with
   |true=>rw[if_pos (by simp)]
   |false=>rw[if_neg (by simp)]
  |false =>
   have h1:(decide (1≤t)&&decide (t≤4))=false:=h;rw[h1];simp
 ·intro rec i hi;rw[if_pos (by simp;omega),a0a hi,Ac,a0c hi,c5e,a0b (by omega)];simp only[Ab];rw[a0a hi];unfold a0j;cases mayV l[i] <;> cases isT t <;> by_cases h3:l[i].1=t <;> by_cases h4:l[i].1=0 <;> simp[h3,h4] <;> intro h5 <;> omega
 ·intro rec;rw[if_neg (by simp),b0r];rfl
theorem c7v{n:Nat}{t:Int}{v:Vl}(h:a0j t v=true)(hv:okV v)(hn:10≤n):b4o n (v,())=some ((oneV v,()),()):=by
 obtain⟨h1,h2⟩:=a1s h;have hr:=a0p;unfold b4o oneV;dsimp only;by_cases h3:v.1=3
 ·rw[if_pos (by simpa using h3),if_pos h3];rw[a3u (by rcases h2 with h2|h2|h2|h2|h2 <;> omega) (by rcases h2 with h2|h2|h2|h2|h2 <;> omega)]
 ·rw[if_neg (by simpa using h3),if_neg h3];by_cases h4:v.1=4
  ·have hl:v.2.2.1.length≤20:=by omega
   rw[if_pos (by simpa using h4),if_pos (by simp;omega),if_pos h4,a3u (by omega) (by omega)];rfl
  ·rw[if_neg (by simpa using h4),if_neg h4,c8n hv.2.1.1 hv.2.1.2];simp only[Ab];rw[a6z (b6v hv.2.1.1 hv.2.1.2) hn];simp only[Ab]
theorem c4h{n:Nat}{t:Int}{x y:Vl}(ht:t≠0)(hx:a0j t x=true)(hy:a0j t y=true):∃c,a2s n (x,y,())=some ((c,()),())∧(c<0↔ltV t x y=true)∧(c=0↔x=y):=by
 have a:=(a1s hx).1;have b:=(a1s hy).1;have hl:=a7q t;unfold a2s b0a;dsimp only;rw[a,b];have e:∀z:Int,decide (z<z)=false:=fun z=>by simp
 by_cases h4:t=4
 ·subst h4;have l1:ltV 4 x y=a1n x.2.2.1 y.2.2.1:=by simp[ltV]
  have l2:ltV 4 y x=a1n y.2.2.1 x.2.2.1:=by simp[ltV]
  have hne:x=y↔(a1n x.2.2.1 y.2.2.1=false∧a1n y.2.2.1 x.2.2.1=false):=by
   rw[←l1,←l2];constructor
   ·rintro rfl;exact⟨hl.irrefl _ hx,hl.irrefl _ hx⟩
   ·rintro⟨h1,h2⟩;rcases hl.total x y hx hy with h|h|h
    ·rw[h1] at h;cases h
    ·exact h
    ·rw[h2] at h;cases h
  have has:a1n x.2.2.1 y.2.2.1=true→a1n y.2.2.1 x.2.2.1=false:=by
   rw[←l1,←l2];exact hl.asymm hx hy
  rw[l1];cases h1:a1n x.2.2.1 y.2.2.1 with
  |true =>
   have h2:=has h1;refine⟨-1,by simp[h1,h2],by simp,?_⟩;rw[hne,h1];simp
  |false =>
   cases h2:a1n y.2.2.1 x.2.2.1 with
   |true =>
    refine⟨1,by simp[h1,h2],by simp,?_⟩;rw[hne,h1,h2];simp
   |false =>
    refine⟨0,by simp[h1,h2],by simp,?_⟩;rw[hne,h1,h2];simp
 ·have l1:ltV t x y=decide (x.2.1<y.2.1):=by simp[ltV,h4]
  have l2:ltV t y x=decide (y.2.1<x.2.1):=by simp[ltV,h4]
  have hne:x=y↔x.2.1=y.2.1:=by
   constructor
   ·rintro rfl;rfl
   ·intro h;exact c6r hx hy (by rw[if_neg h4];exact h)
  rw[l1];rcases Int.lt_trichotomy x.2.1 y.2.1 with h|h|h
  ·have h2:¬y.2.1<x.2.1:=by omega
   refine⟨-1,by simp[ht,h4,h],by simp[h],?_⟩;rw[hne];simp;omega
  ·have h2:¬y.2.1<x.2.1:=by omega
   have h3:¬x.2.1<y.2.1:=by omega
   refine⟨0,by simp[ht,h4,h2,h3],by simp[h3],?_⟩;rw[hne];simp[h]
  ·have h2:¬x.2.1<y.2.1:=by omega
   refine⟨1,by simp[ht,h4,h,h2],by simp[h2],?_⟩;rw[hne];simp;omega
theorem f8n{α:Type}[DecidableEq α]{lt:α→α→Bool}{S:α→Prop}(h:LinO lt S){v:α}(hv:S v):∀(k:Nat) (d:List α),(∀x,x∈d→S x)→(∀j (hj:j<d.length),j<k→lt d[j] v=true)→k≤d.length →
  (∀hk:k<d.length,lt d[k] v=false)→insS lt v d=if d[k]?=some v then d else d.take k++v::d.drop k
 |0,[],_,_,_,_=>by simp[insS]
 |k+1,[],_,_,hk,_=>by simp at hk
 |0,x::d,hS,_,_,hn=>by
  have h1:lt x v=false:=hn (by simp);have hx:=hS x (by simp);unfold insS;rw[if_neg (by rw[h1];simp)];rcases h.total x v hx hv with h2|h2|h2
  ·rw[h1] at h2;cases h2
  ·subst h2;rw[h1,if_neg (by simp)];simp
  ·rw[if_pos h2];have:x≠v:=by rintro rfl;rw[h.irrefl x hx] at h2;cases h2
   simp[this]
 |k+1,x::d,hS,hlt,hk,hn=>by
  have h1:lt x v=true:=hlt 0 (by simp) (by omega);have hd:=fun y hy=>hS y (Ar _ hy)
  unfold insS;rw[if_pos h1,f8n h hv k d hd (fun j hj hjk=>by have:=hlt (j+1) (by simpa using hj) (by omega);simpa using this) (by simpa using hk) (fun hk'=>by have:=hn (by simpa using hk');simpa using this)];simp only[List.getElem?_cons_succ];split <;> simp
theorem e0j{n:Nat}{t:Int}{l:List Vl}(ht:t≠0)(hr:∀v,v∈l→a0j t v=true)(hl:l.length<100000)(hn:l.length+1<n) :
  b3s n (l,())=some ((a9a t l,()),()):=by
 have hro:=a0p;have hS:∀i,∀x,x∈a9a t (l.take i)→a0j t x=true:=fun i x hx=>hr x (Bk ((b4c (a7q t) (fun y hy=>hr y (Bk hy)) x).1 hx))
 unfold b3s;dsimp only;refine a0i (st:=fun i=>(a9a t (l.take i),(i:Int))) l.length (by simp[a9a,d9h]) ?_ ?_ (by omega)
 ·intro rec i hi;have hv:=hr _ (Aj hi);have hstep:a9a t (l.take (i+1))=insS (ltV t) l[i] (a9a t (l.take i)):=by
   rw[Am hi];unfold a9a d9h;rw[Cy];rfl
  have hdl:(a9a t (l.take i)).length≤(l.take i).length:=c3u (ltV t) (l.take i);rw[AC] at hdl;dsimp only;rw[if_pos (by simp;omega),hstep];obtain⟨d,hd⟩:∃d,a9a t (l.take i)=d:=⟨_,rfl⟩
  have hSd:=hS i;rw[hd] at hSd hdl ⊢;have hdl2:d.length≤i:=by omega
  refine a9u (I:=fun s q=>∃k:Nat,s=(k:Int)∧k≤d.length∧(∀j (hj:j<d.length),j<k→ltV t d[j] l[i]=true)∧(∀hk:k<d.length,ltV t d[k] l[i]=false)∧q=rec (insS (ltV t) l[i] d,((i+1:Nat):Int))) ?_ ?_
  ·rintro _ _ ⟨k,rfl,hk,h1,h2,rfl⟩;rw[f8n (a7q t) hv k d hSd h1 hk h2];have ins:(if 0≤(k:Int)∧(k:Int)≤(d.length:Int) then(if(([]:List Vl).length+((d.take (k:Int).toNat).drop (0:Int).toNat).length)*32≤room then(atI (i:Int) l.length (if((([]:List Vl)++((d.take (k:Int).toNat).drop (0:Int).toNat)).length+([(l.getD (i:Int).toNat ((0:Int),(0:Int),[],()))]:List Vl).length)*32≤room then(if 0≤(k:Int)∧(k:Int)≤(d.length:Int) then(if(((([]:List Vl)++((d.take (k:Int).toNat).drop (0:Int).toNat))++([(l.getD (i:Int).toNat ((0:Int),(0:Int),[],()))]:List Vl)).length+((d.take (d.length:Int).toNat).drop (k:Int).toNat).length)*32≤room then(rec ((((([]:List Vl)++((d.take (k:Int).toNat).drop (0:Int).toNat))++([(l.getD (i:Int).toNat ((0:Int),(0:Int),[],()))]:List Vl))++((d.take (d.length:Int).toNat).drop (k:Int).toNat)),(Aa.wrap ((i:Int)+1)))) else none) else none) else none)) else none) else none)=rec (d.take k++l[i]::d.drop k,((i+1:Nat):Int)):=by
    simp only[Ac];rw[if_pos ⟨by omega,by omega⟩,if_pos (by simp;omega),a0a hi,a0c hi,if_pos (by simp;omega),if_pos ⟨by omega,by omega⟩,if_pos (by simp;omega),a0b (by omega)];simp
   by_cases hke:k=d.length
   ·subst hke;rw[if_pos (by simp),ins,if_neg (by simp)]
   ·have hk':k<d.length:=by omega
    obtain⟨c,hc,_,hc0⟩:=c4h (n:=n) ht (hSd _ (Aj hk')) hv;rw[if_neg (by simp;omega),a0a hk',a0a hi,Ac,Ac,a0c hk',a0c hi,hc];simp only[Ab];by_cases hc1:c=0
    ·rw[if_neg (by simp[hc1]),if_pos (by rw[Ax hk',hc0.1 hc1]),a0b (by omega)]
    ·rw[if_pos (by simp[hc1]),if_neg (c:=d[k]?=some l[i]) (by rw[Ax hk'];intro h;exact hc1 (hc0.2 (Ai h)))];simp only[Ac,a0c hi] at ins ⊢;exact ins
  ·intro J hJ;refine(a8m (I:=fun m (s:Int)=>∃k:Nat,s=(k:Int)∧k≤d.length∧d.length - k≤m∧∀j (hj:j<d.length),j<k→ltV t d[j] l[i]=true)
    (res:=fun _=>rec (insS (ltV t) l[i] d,((i+1:Nat):Int))) ?_ n d.length _ ⟨0,rfl,by omega,by omega,by omega⟩ (by omega))
   rintro m _ rec2 ⟨k,rfl,hk,hm,h1⟩ hrec2;by_cases hk':k<d.length
   ·obtain⟨c,hc,hcl,_⟩:=c4h (n:=n) ht (hSd _ (Aj hk')) hv;rw[if_pos (by simp;omega),a0a hk',a0a hi,Ac,Ac,a0c hk',a0c hi,hc];simp only[Ab];by_cases hc0:c<0
    ·rw[if_pos (by simpa using hc0),a0b (by omega)];refine hrec2 (d.length - (k+1)) _ (by omega) ⟨k+1,rfl,by omega,by omega,fun j hj hjk=>?_⟩;rcases AY j k with h|h
     ·exact h1 j hj h
     ·obtain rfl:j=k:=by omega
      exact hcl.1 hc0
    ·rw[if_neg (by simpa using hc0)];refine hJ _ _ ⟨k,rfl,hk,h1,fun _=>?_,rfl⟩;cases hb:ltV t d[k] l[i] with
     |false=>rfl
     |true=>exact absurd (hcl.2 hb) hc0
   ·rw[if_neg (by simp;omega)];exact hJ _ _ ⟨k,rfl,hk,h1,fun h=>absurd h hk',rfl⟩
 ·intro rec;dsimp only;rw[if_neg (by simp),Aq]
end Go.Rb.R5

namespace Go.Rb.R5
open Go.Rb
theorem b9t{n:Nat}{l:List Vl}{p:Vl→Option Bool}{q:Vl→Bool}(hp:∀v,v∈l→p v=some (q v))(hl:l.length<100000)(hn:l.length<n) :
  Gets (a0u n (l,p,())) fun y=>(y=(((-1:Int),()),())∧∀v,v∈l→q v=false)∨∃i,∃(hi:i<l.length),y=(((i:Int),()),())∧q l[i]=true∧∀v,v∈l.take i→q v=false:=by
 unfold a0u;dsimp only;refine Gets.iter (I:=fun s:Int=>∃i:Nat,s=(i:Int)∧i≤l.length∧∀v,v∈l.take i→q v=false) (μ:=fun s=>l.length - s.toNat) ⟨0,rfl,by omega,by simp⟩ (by simp <;> omega) ?_;rintro rec _ ⟨i,rfl,hi,hq⟩ hrec;by_cases h:i<l.length
 ·rw[if_pos (by simp <;> omega),a0a h,Ac,a0c h,hp _ (Aj h)];simp only[Ab];by_cases hqi:q l[i]=true
  ·rw[if_pos hqi];exact Gets.some (.inr ⟨i,h,rfl,hqi,hq⟩)
  ·rw[if_neg hqi,a0b (by omega)];refine hrec _ ⟨i+1,rfl,by omega,fun v hv=>?_⟩ (by simp <;> omega);rw[Am h] at hv;rcases Ao.1 hv with hv|hv
   ·exact hq v hv
   ·simp at hv;subst hv;simpa using hqi
 ·rw[if_neg (by simp <;> omega)];refine Gets.some (.inl ⟨rfl,fun v hv=>hq v ?_⟩);rwa [AN (by omega)]
theorem b2g{n:Nat}{l:List Vl}{p:Vl→Option Bool}{q:Vl→Bool}(hp:∀v,v∈l→p v=some (q v))(hl:l.length<100000)(hn:l.length<n) :
  a0n n (l,p,())=some ((l.any q,()),()):=by
 obtain⟨y,h1,h2⟩:=b9t hp hl hn;unfold a0n;dsimp only;rw[h1];simp only[Ab];rcases h2 with⟨rfl,h⟩|⟨i,hi,rfl,h,_⟩
 ·have:l.any q=false:=by rw[List.any_eq_false];intro x hx;simp[h x hx]
  rw[this];rfl
 ·have:l.any q=true:=List.any_eq_true.2 ⟨_,Aj hi,h⟩;rw[this];simp
theorem c1v{n:Nat}{l:List Vl}{p:Vl→Option Bool}{q:Vl→Bool}(hp:∀v,v∈l→p v=some (q v))(hl:l.length<100000)(hn:l.length<n) :
  a0t n (l,p,())=some ((l.filter (fun v=>!q v),()),()):=by
 obtain⟨y,h1,h2⟩:=b9t hp hl hn;refine gets_eq' ?_;unfold a0t;dsimp only;rw[h1];simp only[Ab];rcases h2 with⟨rfl,h⟩|⟨i,hi,rfl,h,hno⟩
 ·rw[if_pos (by simp)];have:l.filter (fun v=>!q v)=l:=FS.2 fun x hx=>by simp[h x hx]
  rw[this];exact Gets.some rfl
 ·rw[if_neg (by simp <;> omega),a0b (by omega)];refine Gets.iter (I:=fun s:List Vl×Int×Int=>∃(m:List Vl) (i j:Nat),s=(m,(i:Int),(j:Int))∧m.length=l.length∧i<j∧j≤l.length∧m.take i=(l.take j).filter (fun v=>!q v)∧m.drop j=l.drop j)
   (μ:=fun s=>l.length - s.2.2.toNat) ⟨l,i,i+1,rfl,rfl,by omega,by omega,?_,rfl⟩ (by simp <;> omega) ?_
  ·rw[Am hi,DR];have e1:(l.take i).filter (fun v=>!q v)=l.take i:=FS.2 fun x hx=>by simp[hno x hx]
   rw[e1];simp[h]
  ·rintro rec _ ⟨m,i,j,rfl,g1,g2,g3,g4,g5⟩ hrec;dsimp only;by_cases hj:j<l.length
   ·have hjm:j<m.length:=by omega
    have hmj:m[j]=l[j]:=by
     have e1:=A7 hjm;have e2:=A7 hj;rw[g5,e2] at e1;exact(List.cons.inj e1).1.symm
    have hd1:m.drop (j+1)=l.drop (j+1):=by
     have:=congrArg List.tail g5;simpa using this
    rw[if_pos (by simp <;> omega),a0a hjm,Ac,a0c hjm,hmj,hp _ (Aj hj)];simp only[Ab];rw[a0b (i:=j) (by omega)];by_cases hq:q l[j]=true
    ·rw[if_neg (by simp[hq])];refine hrec _ ⟨m,i,j+1,rfl,g1,by omega,by omega,?_,hd1⟩ (by simp <;> omega);rw[g4,Am hj,DR];simp[hq]
    ·rw[if_pos (by simpa using hq),a0a (by omega),Ac,a0b (i:=i) (by omega)];refine hrec _ ⟨m.set i l[j],i+1,j+1,rfl,by simpa using g1,by omega,by omega,?_,?_⟩ (by simp <;> omega)
     ·rw[Am (by simp <;> omega),List.getElem_set_self,List.take_set_of_le (Av _),g4,Am hj,DR];have:q l[j]=false:=by simpa using hq
      simp[this]
     ·rw[List.drop_set_of_lt (by omega)];exact hd1
   ·obtain rfl:j=l.length:=by omega
    have hlm:(m.take i).length=i:=by simp <;> omega
    rw[if_neg (by simp <;> omega),if_pos (by omega),if_pos (by omega)];simp only[Ac];rw[if_pos (by simp <;> omega)];refine Gets.some ?_;rw[DK hlm,g4,Aq]
 where
 gets_eq' {R:Type} {o:Option R} {r:R} (h:Gets o fun y=>y=r):o=some r:=by
  obtain⟨y,h1,rfl⟩:=h;exact h1
set_option maxRecDepth 100000 in
theorem e7f:∀m:Fin 1001,a6e 0 ((1:Int),((m.1:Nat):Int),())=some (((0:Int),((m.1:Nat):Int),()),()):=by decide +kernel
theorem e8u{n m:Nat}{v:Vl}(hm:m≤1000)(hn:1001<n):a1b n ([v],(m:Int),())=some ((Ag m v,()),()):=by
 have hro:=a0p;have hmul:b1b n ((Ae.wrap (([v]:List Vl).length:Int)),(Ae.wrap (m:Int)),())=some (((0:Int),(m:Int),()),()):=by
  have h1:=e7f ⟨m,by omega⟩;unfold b1b;rw[a2f (x:=m) (by omega),show Ae.wrap (([v]:List Vl).length:Int)=1 by rfl];have h2:a6e n ((1:Int),(m:Int),())=a6e 0 ((1:Int),(m:Int),()):=rfl;dsimp only;rw[h2,h1];rfl
 unfold a1b;dsimp only;rw[if_neg (by simp <;> omega),hmul];simp only[Ab];rw[if_neg (by simp),if_neg (by simp <;> omega),a0q (by omega),if_pos (by omega)];simp only[Ac,Cq];rw[if_pos (by omega)];refine iter_done (I:=fun k (s:List Vl×Int)=>∃i:Nat,s=(Ag i v++Ag (m - i) d0,(i:Int))∧i≤m∧m - i≤k∧(0<m→0<i)) (r:=some ((Ag m v,()),())) ?_ n 1000 _ ?_ (by omega)
 ·rintro k _ rec ⟨i,rfl,h1,h2,h3⟩ hrec;dsimp only;have hlen:(Ag i v++Ag (m - i) d0).length=m:=by simp <;> omega
  by_cases hi:i<m
  ·rw[if_pos (by rw[hlen];simp <;> omega),if_pos (by rw[hlen];omega),if_pos (by rw[hlen];omega),if_pos (by rw[hlen];omega),hlen];simp only[Ac];have e1:(Ag i v++Ag (m - i) d0).take i=Ag i v:=DK (by simp);have e0:((0:Int)).toNat=0:=rfl;rw[e1,e0,Dk,Cq,a0d (by omega) (by omega)];refine hrec (m - (i+min (m - i) i)) _ (by omega) ⟨i+min (m - i) i,?_,by omega,by omega,by omega⟩;have e2:(Ag i v).take (m - i)=Ag (min (m - i) i) v:=List.take_replicate;have e3:(Ag i v++Ag (m - i) d0).drop (i+min (m - i) i)=Ag (m - (i+min (m - i) i)) d0:=by
    rw[←List.drop_drop,List.drop_left' (by simp),FT];congr 1;omega
   rw[e2,e3,←Al,List.replicate_append_replicate];congr 1
  ·obtain rfl:i=m:=by omega
   rw[if_neg (by rw[hlen];simp)];simp
 ·refine⟨min m 1,?_,by omega,by omega,by omega⟩;have e0:((0:Int)).toNat=0:=rfl;simp only[e0,List.take_zero,EP,Jl,AZ,Nat.zero_add,FT];cases m with
  |zero=>rfl
  |succ m=>simp[Cf]
 where
 iter_done {σ R:Type} {f:(σ→Option R)→σ→Option R} {r:Option R} (I:Nat→σ→Prop) (h:∀k s rec,I k s→(∀j s',j<k→I j s'→rec s'=r)→f rec s=r) (n k:Nat) (s:σ) (hi:I k s) (hk:k<n):a0h f n s=r :=
  a8m I (fun _=>r) h n k s hi hk
theorem e9q{l:List Bool}{i:Nat}(hi:i<l.length):bitL (l.map b2i) 1 i=if l[i]=true then 1 else 0:=by
 unfold bitL;rw[Nat.div_one,Nat.mod_one,a0c (by simpa using hi),Bj];cases l[i] <;> rfl
theorem c3w{n:Nat}{l:List Bool}(hl:l.length<100000)(hn:l.length<n):b1v n (l,())=some ((b3m l,()),()):=by
 have hro:=a0p;have hb:=b6y (l.map b2i) 1;unfold b1v;dsimp only;rw[show((l.length:Int)+7)=((l.length+7:Nat):Int) by omega,a0q (by omega),show((8:Int))=((8:Nat):Int) from rfl,a5m,a0q (by omega),if_pos (by refine⟨by omega,by omega,?_⟩;omega)];refine a0i (st:=fun i=>(a6i (bitL (l.map b2i) 1) ((l.length+7) / 8) i,(i:Int))) l.length (by rw[c1s,Ac];rfl) ?_ ?_ hn
 ·intro rec i hi;dsimp only;have hlt:i / 8<(l.length+7) / 8:=by omega
  have hbit:=e9q hi;have hstep:=c0y (bit:=bitL (l.map b2i) 1) hlt;have hsm:=c1m hb i;rw[if_pos (by simp <;> omega),a0a hi,Ac,a0c hi,show((i:Int)).tdiv (((8:Nat):Int))=((i / 8:Nat):Int) from a5m i 8,show((i:Int)).tmod (((8:Nat):Int))=((i % 8:Nat):Int) from a9k i 8,a0q (x:=i / 8) (by omega),a0b (by omega)];by_cases hx:l[i]=true
  ·rw[if_pos hx] at hbit ⊢;have hp8:2 ^ (i % 8)≤2 ^ 7:=Bn (by omega) (by omega);have h4:=d3x 1 (i % 8) 8 (by omega);rw[Ac] at h4;rw[a0a (by rw[a8e];exact hlt),if_neg (by omega),a0a (by rw[a8e];exact hlt)];simp only[Ac];rw[b5n hlt,show Ah.bits=8 from rfl,show((1:Int))=((1:Nat):Int) from rfl,h4,b5r (by omega),d8z (d2w hb _ _) (by omega),e9w hsm,←hstep,hbit]
  ·rw[if_neg hx] at hbit ⊢;rw[←hstep,hbit,EA,CC];congr 2;refine(Bm (by simp) fun j h1 h2=>?_);rw[Ee];split
   ·rename_i hj;subst hj;have:=b5n (bit:=bitL (l.map b2i) 1) (p:=i) hlt;rw[a0c (by rw[a8e];exact hlt)] at this;exact this
   ·rfl
 ·intro rec;dsimp only;rw[if_neg (by simp)];unfold b3m a7i;simp
def b0y(b:List Int)(m:Nat):List Bool:=(AA m).map fun i=>decide (bitB b i=1)
theorem a7g(b:List Int)(m:Nat):(b0y b m).length=m:=by simp[b0y]
theorem d7z(l:List Bool):b0y (b3m l) l.length=l:=by
 refine Bm (by simp[b0y]) fun i h1 h2=>?_
 simp only[b0y,Bj,BT];have h3:bitB (b3m l) i=bitL (l.map b2i) 1 i:=by
  unfold b3m a7i;refine c9w (b6y _ _) (by simp <;> omega) (by simp <;> omega)
 rw[h3,e9q h2];cases l[i] <;> rfl
def a9f(b:List Int)(m:Int):List Bool×Bool×Unit :=
 if 0≤m∧m≤1000∧b.length=(m.toNat+7) / 8∧b3m (b0y b m.toNat)=b then(b0y b m.toNat,true,()) else([],false,())
theorem d5r{n:Nat}{b:List Int}{m:Int}(hb:a1h b)(hl:b.length<1000000)(hn:2000<n):b6q n (b,m,())=some (a9f b m,()):=by
 have hro:=a0p;have fail:∀msg:List Int,((some ((([]:List Bool),(UV.node a6v (.pair (.str msg) (.pair (UV.sent a2t) .unit))),()),()):Option ((List Bool×UV×Unit)×Unit)).bind fun y1=>((a1x n (y1.1.2.1,(UV.sent a2t),())).bind fun y2=>(some ((y1.1.1,(!y2.1.1),()),()))))=some (([],false,()),()):=fun msg=>rfl
 unfold b6q c1r a9f;dsimp only;by_cases h1:m<0
 ·rw[if_pos (by simpa using h1),if_neg (by omega)];exact fail _
 rw[if_neg (by simpa using h1)];by_cases h2:1000<m
 ·rw[if_pos (by simpa using h2),if_neg (by omega)];exact fail _
 rw[if_neg (by simpa using h2)];obtain⟨M,rfl⟩:∃M:Nat,m=(M:Int):=⟨_,(A2 (by omega)).symm⟩
 simp only[Ac];rw[show((M:Int)+7)=((M+7:Nat):Int) by omega,a0q (by omega),show((8:Int))=((8:Nat):Int) from rfl,a5m,a0q (by omega)];by_cases h3:b.length=(M+7) / 8
 rotate_left
 ·rw[if_pos (by simp <;> omega),if_neg (by omega)];exact fail _
 rw[if_neg (by simp <;> omega),if_pos (by omega)];simp only[Cq];have hloop:=a0i (R:=(List Bool×UV×Unit)×Unit) (st:=fun i=>((b0y b M).take i++Ag (M - i) false,(i:Int))) (s0:=(Ag M false,(0:Int))) M (by simp)
  (f:=fun rec2 (s1:List Bool×Int)=>(if(decide (s1.2<(M:Int)))=true then(atI (Aa.wrap (s1.2.tdiv ((8:Nat):Int))) b.length (if(s1.2.tmod ((8:Nat):Int))<0 then none else(atI s1.2 s1.1.length (rec2 ((s1.1.set s1.2.toNat (decide ((bits .and .u8 ((b.getD (Aa.wrap (s1.2.tdiv ((8:Nat):Int))).toNat (0:Int)).fdiv (2 ^ min (s1.2.tmod ((8:Nat):Int)).toNat Ah.bits)) (1:Int))=(1:Int)))),(Aa.wrap (s1.2+1))))))) else((b1v n (s1.1,())).bind fun y3=>((a0k n (y3.1.1,b,())).bind fun y4=>(if(!y4.1.1)=true then(some (([],(UV.node a6v (.pair (.str [98,101,104,105,110,100,32,116,104,101,32,108,97,115,116]) (.pair (UV.sent a2t) .unit))),()),())) else(some ((s1.1,UV.nil,()),())))))))
  (r:=if b3m (b0y b M)=b then some ((b0y b M,UV.nil,()),()) else some (([],(UV.node a6v (.pair (.str [98,101,104,105,110,100,32,116,104,101,32,108,97,115,116]) (.pair (UV.sent a2t) .unit))),()),())) ?_ ?_ (n:=n) (by omega)
 ·rw[hloop];by_cases h4:b3m (b0y b M)=b
  ·rw[if_pos h4,if_pos ⟨by omega,by omega,h3,h4⟩];rfl
  ·rw[if_neg h4,if_neg (fun h=>h4 h.2.2.2)];exact fail _
 ·intro rec i hi;dsimp only;obtain⟨c,hc1,hc2,hc3⟩:=hb.get (i:=i / 8) (by omega);have hset:((b0y b M).take i++Ag (M - i) false).set i (decide (bitB b i=1))=(b0y b M).take (i+1)++Ag (M - (i+1)) false:=by
   have hti:((b0y b M).take i).length=i:=by rw[AC,a7g];omega
   have h0:List.set ((b0y b M).take i++Ag (M - i) false) i (decide (bitB b i=1))=(b0y b M).take i++(Ag (M - i) false).set 0 (decide (bitB b i=1)):=by
    rw[List.set_append_right _ _ (by omega),hti,CV]
   rw[h0,Am (by rw[a7g];exact hi),show M - i=(M - (i+1))+1 by omega,Cf,List.set_cons_zero];simp[b0y]
  have hbit:bitB b i=c / 2 ^ (i % 8) % 2:=by
   unfold bitB;rw[hc1,Ac]
  have h6:=f9w c (i % 8) (by omega);rw[Ac] at h6;have h7:bits .and .u8 ((c / 2 ^ (i % 8):Nat):Int) (1:Int)=((c / 2 ^ (i % 8) % 2:Nat):Int):=by
   have hq:c / 2 ^ (i % 8)≤c:=D6 _ _;have:=c6u (x:=c / 2 ^ (i % 8)) (y:=1) (by omega) (by omega);rw[DU] at this;exact this
  have hdec:decide (((c / 2 ^ (i % 8) % 2:Nat):Int)=1)=decide (bitB b i=1):=by
   rw[hbit];by_cases h:c / 2 ^ (i % 8) % 2=1
   ·simp[h]
   ·have:¬(((c / 2 ^ (i % 8) % 2:Nat):Int)=1):=by omega
    simp only[h,this,decide_false]
  rw[if_pos (by simp <;> omega),show((i:Int)).tdiv (((8:Nat):Int))=((i / 8:Nat):Int) from a5m i 8,show((i:Int)).tmod (((8:Nat):Int))=((i % 8:Nat):Int) from a9k i 8,a0q (x:=i / 8) (by omega),a0a (by omega),if_neg (by omega),
   a0a (by simp only[Ap,AC,a7g,Cq];omega),a0b (by omega)]
  simp only[Ac];simp only[hc1,h6,h7];rw[hdec,hset]
 ·intro rec;dsimp only;rw[if_neg (by simp),CV,List.replicate_zero,List.append_nil,AN (by rw[a7g];omega),c3w (by rw[a7g];omega) (by rw[a7g];omega)];simp only[Ab,a0k];by_cases h4:b3m (b0y b M)=b
  ·rw[if_pos h4,if_neg (by simp[h4])]
  ·rw[if_neg h4,if_pos (by simp[h4])]
theorem d0m{n:Nat}{l:List Bool}(hl:l.length<100000)(hn:l.length<n):b3r n (l,())=some ((((l.countP (fun b=>b):Nat):Int),()),()):=by
 unfold b3r;dsimp only;refine a0i (st:=fun i=>((((l.take i).countP (fun b=>b):Nat):Int),(i:Int))) l.length (by simp) ?_ ?_ hn
 ·intro rec i hi;have hc:=List.countP_le_length (p:=fun b:Bool=>b) (l:=l.take i);have hti:(l.take i).length≤l.length:=by simp <;> omega
  have hsuc:(l.take (i+1)).countP (fun b=>b)=(l.take i).countP (fun b=>b)+(if l[i]=true then 1 else 0):=by
   rw[Am hi,List.countP_append,List.countP_singleton]
  dsimp only;rw[if_pos (by simp <;> omega),a0a hi,Ac,a0c hi,a0b (i:=i) (by omega),hsuc];by_cases hx:l[i]=true
  ·rw[if_pos hx,if_pos hx,a0b (by omega)]
  ·rw[if_neg hx,if_neg hx];simp only[CC]
 ·intro rec;dsimp only;rw[if_neg (by simp),Aq]
end Go.Rb.R5
