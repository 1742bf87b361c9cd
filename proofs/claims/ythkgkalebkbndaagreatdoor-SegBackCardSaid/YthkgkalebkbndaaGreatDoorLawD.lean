/- Plain law: numbers of few bytes, as the program has them. Own work. -/
import Derived.Test.YthkgkalebkbndaaGreatDoorLawB
import Derived.Test.YthkgkalebkbndaaGreatDoorRbJ
set_option autoImplicit false
set_option linter.unusedVariables false
set_option linter.unusedSimpArgs false
namespace Go.Rb.R5
open Go.Rb
theorem a2k:room=140737488355328:=rfl
def a4a(b:List Int):Prop:=∀x,x∈b→0≤x∧x≤255
theorem a4a.get{b:List Int}(h:a4a b){i:Nat}(hi:i<b.length):∃c:Nat,b.getD i 0=(c:Int)∧c<256∧b[i]=(c:Int):=by
 have:=h _ (List.getElem_mem hi)
 exact⟨b[i].toNat,by rw[a0h hi];omega,by omega,by omega⟩
theorem a6i{n v:Nat}(hv:v<18446744073709551616)(hn:10≤n):a2o n ((v:Int),())=some ((putN v,()),()):=by
 unfold a2o
 refine(b9t (I:=fun k (s:Int×List Int)=>∃v:Nat,s.1=(v:Int)∧v<128 ^ (k+1)∧v<18446744073709551616∧s.2.length+k≤1000)
  (res:=fun s=>some ((s.2++putN s.1.toNat,()),())) ?_ n 9 _ ⟨v,rfl,by omega,hv,by simp⟩ (by omega)).trans (by simp)
 rintro k ⟨a,acc⟩ rec ⟨v,rfl,h1,h2,h3⟩ hrec
 dsimp only at h3
 have hr:=a2k
 have hm:IntKind.u8.wrap (v:Int)=((v % 256:Nat):Int):=by rw[c2s];omega
 dsimp only
 by_cases h:v<128
 ·rw[if_neg (by simp;omega),if_pos (by simp;omega)]
  rw[Int.toNat_natCast,a6z h,hm,Nat.mod_eq_of_lt (by omega)]
 ·obtain⟨k,rfl⟩:∃k',k=k'+1:=⟨k - 1,by
   rcases Nat.eq_zero_or_pos k with h0|h0
   ·subst h0;omega
   ·omega⟩
  rw[if_pos (by simp;omega),if_pos (by simp;omega)]
  have e1:bits .or .u8 (IntKind.u8.wrap (v:Int)) 128=((v % 128+128:Nat):Int):=by
   rw[hm,show(128:Int)=((128:Nat):Int) from rfl,d5b (by omega) (by omega),g6w (by omega)]
   congr 1;omega
  have e2:=c5g v 7 (by omega)
  rw[e1,show((7:Int))=((7:Nat):Int) from rfl,e2]
  rw[hrec k _ (by omega) ⟨v / 2 ^ 7,rfl,by rw[Nat.pow_succ] at h1;omega,by omega,by simp;omega⟩]
  simp only[Int.toNat_natCast]
  rw[b2d (v:=v) (by omega)]
  simp
theorem b1n{v:Int}(h1:-9223372036854775808≤v)(h2:v≤9223372036854775807)(n:Nat):a5e n (v,())=some ((((zig v:Nat):Int),()),()):=by
 unfold a5e
 dsimp only
 rw[f6e h1 h2]
theorem b1p{u:Nat}(h:u<18446744073709551616)(n:Nat):a6c n ((u:Int),())=some ((zag u,()),()):=by
 unfold a6c
 dsimp only
 rw[f7u h]
def d5v(b:List Int)(y:(Int×Int×UV×Unit)×Unit):Prop :=
 match a5a b with
 |some (v,k)=>y=(((v:Int),(k:Int),UV.nil,()),())
 |none=>∃g,(g=b0v∨g=a4c)∧y=(((0:Int),(0:Int),UV.node a8g (.pair (.str [98,121,116,101]) (.pair (UV.sent g) .unit)),()),())
theorem f9b{V c i:Nat}(hV:V<2 ^ (7*i))(hi:i≤9)(hc:c % 128*2 ^ (7*i)<18446744073709551616)(hc8:c<256) :
  bits .or .u64 (V:Int) (IntKind.u64.wrap ((IntKind.u64.wrap (bits .and .u8 (c:Int) (127:Int)))*2 ^ min (IntKind.i64.wrap ((7:Int)*(i:Int))).toNat IntKind.u64.bits))=((V+c % 128*2 ^ (7*i):Nat):Int):=by
 have e1:bits .and .u8 (c:Int) (127:Int)=((c % 128:Nat):Int):=by
  have:=c2b hc8 (show 127<256 by omega)
  rw[g4r hc8] at this
  exact this
 have e2:IntKind.i64.wrap ((7:Int)*(i:Int))=((7*i:Nat):Int):=by
  rw[a0j (by omega) (by omega)];push_cast;rfl
 have hp:2 ^ (7*i)≤2 ^ 63:=Nat.pow_le_pow_right (by omega) (by omega)
 rw[e1,e2,a7a (x:=c % 128) (by omega),d5u _ (7*i) IntKind.u64.bits (show 7*i≤64 by omega),a7a hc,d0f (by omega) hc,e5j hV]
theorem d0u{n:Nat}{b:List Int}(hb:a4a b)(hl:b.length<1000000)(hn:11≤n):Gets (b5o n (b,())) (d5v b):=by
 unfold b5o
 dsimp only
 refine Gets.iter (I:=fun s:Int×Int=>∃V i:Nat,s=((V:Int),(i:Int))∧i≤10∧i≤b.length∧a5a b=e1a i V (a5a (b.drop i))∧(i≤9→V<2 ^ (7*i))∧V<18446744073709551616) (μ:=fun s=>10 - s.2.toNat)
  ⟨0,0,rfl,by omega,by omega,by rw[List.drop_zero,e9i hb],by simp,by omega⟩ (by simp;omega) ?_
 rintro rec _ ⟨V,i,rfl,hi,hil,hT,hV,hV2⟩ hrec
 dsimp only
 rcases Nat.lt_or_ge i 10 with h10|h10
 rotate_left
 ·obtain rfl:i=10:=by omega
  rw[if_neg (by simp)]
  rw[c9d] at hT
  refine Gets.some ?_
  unfold d5v
  rw[hT]
  exact⟨_,.inr rfl,rfl⟩
 rw[if_pos (by simp;omega)]
 by_cases hend:i=b.length
 ·rw[if_pos (by simp;omega)]
  refine Gets.some ?_
  rw[hend,List.drop_length] at hT
  unfold d5v
  rw[hT]
  exact⟨_,.inl rfl,rfl⟩
 rw[if_neg (by simp;omega),a0c (by omega),if_neg (by rw[a0j (by omega) (by omega)];omega)]
 obtain⟨c,hc1,hc2,hc3⟩:=hb.get (i:=i) (by omega)
 have hV':=hV (by omega)
 have e0:bits .and .u8 (c:Int) (128:Int)=((if c<128 then 0 else 128:Nat):Int):=by
  have:=c2b hc2 (show 128<256 by omega)
  rw[g5h hc2] at this
  exact this
 rw[Int.toNat_natCast,hc1,e0]
 have hw:IntKind.i64.wrap ((i:Int)+1)=((i+1:Nat):Int):=a0e (by omega)
 rw[hw]
 have hp:1≤2 ^ (7*i):=Nat.pow_pos (by omega)
 by_cases hcl:c<128
 ·rw[if_pos (by simp[hcl])]
  have hlast:=f0e (V:=V) (show i<b.length by omega) (by omega) (by omega)
  rw[←hT,hc3,Int.toNat_natCast] at hlast
  have good:V+c*2 ^ (7*i)<18446744073709551616→((i=0∨(c:Int)≠0))→Gets (some (((bits .or .u64 (V:Int) (IntKind.u64.wrap ((IntKind.u64.wrap (bits .and .u8 (c:Int) (127:Int)))*2 ^ min (IntKind.i64.wrap ((7:Int)*(i:Int))).toNat IntKind.u64.bits))),((i+1:Nat):Int),UV.nil,()),())) (d5v b):=by
   intro h1 h2
   refine Gets.some ?_
   rw[f9b hV' (by omega) (by rw[Nat.mod_eq_of_lt hcl];omega) hc2,Nat.mod_eq_of_lt hcl]
   rw[if_pos ⟨h2,h1⟩] at hlast
   unfold d5v
   rw[hlast]
  have bad:¬((i=0∨(c:Int)≠0)∧V+c*2 ^ (7*i)<18446744073709551616)→Gets (some (((0:Int),(0:Int),(UV.node a8g (.pair (.str [98,121,116,101]) (.pair (UV.sent a4c) .unit))),()),())) (d5v b):=by
   intro h1
   rw[if_neg h1] at hlast
   refine Gets.some ?_
   unfold d5v
   rw[hlast]
   exact⟨_,.inr rfl,rfl⟩
  have nine:Gets (if decide ((i:Int)=9)=true then(if decide ((1:Int)<(c:Int))=true then some (((0:Int),(0:Int),(UV.node a8g (.pair (.str [98,121,116,101]) (.pair (UV.sent a4c) .unit))),()),()) else some (((bits .or .u64 (V:Int) (IntKind.u64.wrap ((IntKind.u64.wrap (bits .and .u8 (c:Int) (127:Int)))*2 ^ min (IntKind.i64.wrap ((7:Int)*(i:Int))).toNat IntKind.u64.bits))),((i+1:Nat):Int),UV.nil,()),())) else some (((bits .or .u64 (V:Int) (IntKind.u64.wrap ((IntKind.u64.wrap (bits .and .u8 (c:Int) (127:Int)))*2 ^ min (IntKind.i64.wrap ((7:Int)*(i:Int))).toNat IntKind.u64.bits))),((i+1:Nat):Int),UV.nil,()),()):Option ((Int×Int×UV×Unit)×Unit)) (fun y=>(i=0∨(c:Int)≠0)→d5v b y):=by
   by_cases h9:i=9
   ·subst h9
    rw[if_pos (by simp)]
    by_cases hc1':1<c
    ·rw[if_pos (by simp;omega)]
     refine(bad ?_).mono fun y h _=>h
     rintro⟨_,h2⟩
     have:2*2 ^ (7*9)≤c*2 ^ (7*9):=Nat.mul_le_mul_right _ hc1'
     omega
    ·rw[if_neg (by simp;omega)]
     by_cases hz:(9=0∨(c:Int)≠0)
     ·refine(good ?_ hz).mono fun y h _=>h
      have:c*2 ^ (7*9)≤1*2 ^ (7*9):=Nat.mul_le_mul_right _ (by omega)
      omega
     ·exact Gets.some fun h=>absurd h hz
   ·rw[if_neg (by simp;omega)]
    by_cases hz:(i=0∨(c:Int)≠0)
    ·refine(good ?_ hz).mono fun y h _=>h
     have h1:c*2 ^ (7*i)≤127*2 ^ (7*i):=Nat.mul_le_mul_right _ (by omega)
     have h2:2 ^ (7*i)≤2 ^ (7*8):=Nat.pow_le_pow_right (by omega) (by omega)
     omega
    ·exact Gets.some fun h=>absurd h hz
  by_cases hi0:0<i
  ·rw[if_pos (by simp;omega)]
   by_cases hc0:c=0
   ·subst hc0
    rw[if_pos (by simp)]
    exact bad (by rintro⟨h1,_⟩;simp at h1;omega)
   ·rw[if_neg (by simp;omega)]
    exact nine.mono fun y h=>h (.inr (by omega))
  ·rw[if_neg (by simp;omega)]
   exact nine.mono fun y h=>h (.inl (by omega))
 ·rw[if_neg (by simp[hcl])]
  have hstep:=f0g (V:=V) (show i<b.length by omega) (by omega)
  rw[←hT,hc3,Int.toNat_natCast] at hstep
  have hcm:c - 128=c % 128:=by omega
  by_cases h9:i=9
  ·
   subst h9
   have hnone:a5a b=none:=by rw[hstep];exact c9d
   have hb2:∃V':Nat,bits .or .u64 (V:Int) (IntKind.u64.wrap ((IntKind.u64.wrap (bits .and .u8 (c:Int) (127:Int)))*2 ^ min (IntKind.i64.wrap ((7:Int)*((9:Nat):Int))).toNat IntKind.u64.bits))=(V':Int)∧V'<18446744073709551616:=by
    have hr:=f1e ((IntKind.u64.wrap (bits .and .u8 (c:Int) (127:Int)))*2 ^ min (IntKind.i64.wrap ((7:Int)*((9:Nat):Int))).toNat IntKind.u64.bits)
    obtain⟨q,hq⟩:∃q:Nat,IntKind.u64.wrap ((IntKind.u64.wrap (bits .and .u8 (c:Int) (127:Int)))*2 ^ min (IntKind.i64.wrap ((7:Int)*((9:Nat):Int))).toNat IntKind.u64.bits)=(q:Int):=⟨_,(Int.toNat_of_nonneg hr.1).symm⟩
    rw[hq] at hr ⊢
    have hq2:q<18446744073709551616:=by omega
    refine⟨V ||| q,d0f hV2 hq2,?_⟩
    have:V ||| q<2 ^ 64:=Nat.or_lt_two_pow (by omega) (by omega)
    omega
   obtain⟨V',e1,e2⟩:=hb2
   rw[e1]
   refine hrec _ ⟨V',10,rfl,by omega,by omega,?_,by omega,e2⟩ (by simp)
   rw[c9d,hnone]
  ·have hlt:c % 128*2 ^ (7*i)<18446744073709551616:=by
    have h1:c % 128*2 ^ (7*i)≤127*2 ^ (7*i):=Nat.mul_le_mul_right _ (by omega)
    have h2:2 ^ (7*i)≤2 ^ (7*8):=Nat.pow_le_pow_right (by omega) (by omega)
    omega
   rw[f9b hV' (by omega) hlt hc2]
   have hb1:c % 128*2 ^ (7*i)≤127*2 ^ (7*i):=Nat.mul_le_mul_right _ (by omega)
   refine hrec _ ⟨_,i+1,rfl,by omega,by omega,by rw[hstep,hcm],fun _=>by rw[pow7];omega,?_⟩ (by simp;omega)
   have h2:2 ^ (7*i)≤2 ^ (7*8):=Nat.pow_le_pow_right (by omega) (by omega)
   omega
theorem a4e{n:Nat}{b:List Int}(hb:a4a b)(hl:b.length<1000000)(hn:11≤n) :
  a2i n (b,())=some (match a5a b with|some (v,k)=>((v:Int),(k:Int),true,())|none=>(0,0,false,()),()):=by
 obtain⟨y,h1,h2⟩:=d0u hb hl hn
 unfold a2i a0y
 dsimp only
 rw[h1]
 simp only[Option.bind_some]
 unfold d5v at h2
 split at h2
 ·rename_i v k ht
  subst h2
  rfl
 ·rename_i ht
  obtain⟨g,hg,rfl⟩:=h2
  rcases hg with rfl|rfl <;> rfl
end Go.Rb.R5

namespace Go.Rb.R5
open Go.Rb
set_option maxRecDepth 100000 in
theorem f2j:a2g.length=256:=by decide
set_option maxRecDepth 100000 in
theorem g2v:∀x:Fin 256,0≤a2g.getD x.1 0∧a2g.getD x.1 0≤8∧x.1<2 ^ (a2g.getD x.1 0).toNat∧(a2g.getD x.1 0=0∨2 ^ ((a2g.getD x.1 0).toNat - 1)≤x.1):=by decide
theorem e7g{x:Nat}(h:x<256):a2g.getD x 0=((blen x:Nat):Int)∧blen x≤8:=by
 obtain⟨h1,h2,h3,h4⟩:=g2v ⟨x,h⟩
 dsimp only at h1 h2 h3 h4
 obtain⟨k,hk⟩:∃k:Nat,a2g.getD x 0=(k:Int):=⟨_,(Int.toNat_of_nonneg h1).symm⟩
 have hk':(a2g.getD x 0).toNat=k:=by rw[hk];rfl
 rw[hk'] at h3 h4
 rw[hk] at h1 h2 h4 ⊢
 have e1:=(b0s k x).2 h3
 have e2:k≤blen x:=by
  rcases h4 with h4|h4
  ·omega
  ·rcases Nat.eq_zero_or_pos k with h0|h0
   ·omega
   ·have:¬blen x≤k - 1:=fun h=>by
     have:=(b0s (k - 1) x).1 h
     omega
    omega
 have:k=blen x:=by omega
 exact⟨by rw[this],by omega⟩
theorem e8x{v:Nat}(hv:v<18446744073709551616)(n:Nat):a5t n ((v:Int),())=some ((((blen v:Nat):Int),()),()):=by
 have last:∀(u m:Nat),u<65536→m≤48→(if(decide ((256:Int)≤(u:Int)))=true then(atI (IntKind.u8.wrap ((u:Int).fdiv (2 ^ min (8:Int).toNat IntKind.u64.bits))) (a2g.length) (some (((IntKind.i64.wrap ((IntKind.i64.wrap ((m:Int)+8))+(IntKind.i64.wrap (a2g.getD (IntKind.u8.wrap ((u:Int).fdiv (2 ^ min (8:Int).toNat IntKind.u64.bits))).toNat (0:Int))))),()),())))
   else(atI (IntKind.u8.wrap (u:Int)) (a2g.length) (some (((IntKind.i64.wrap ((m:Int)+(IntKind.i64.wrap (a2g.getD (IntKind.u8.wrap (u:Int)).toNat (0:Int))))),()),()))):Option ((Int×Unit)×Unit))=some ((((blen u+m:Nat):Int),()),()):=by
  intro u m hu hm
  by_cases h:256≤u
  ·rw[if_pos (by simp;omega)]
   have e:=c5g u 8 (by omega)
   rw[show((8:Int))=((8:Nat):Int) from rfl,e,c6o (by omega),a0c (by rw[f2j];omega),Int.toNat_natCast]
   obtain⟨t1,t2⟩:=e7g (x:=u / 2 ^ 8) (by omega)
   have h3:=c0i 8 u (by omega)
   rw[t1,a2a (x:=blen (u / 2 ^ 8)) (by omega),show((m:Int)+((8:Nat):Int))=((m+8:Nat):Int) by omega,a2a (by omega),h3]
   rw[show(((m+8:Nat):Int)+((blen (u / 2 ^ 8):Nat):Int))=((blen (u / 2 ^ 8)+8+m:Nat):Int) by omega,a2a (by omega)]
  ·rw[if_neg (by simp;omega),c6o (by omega),a0c (by rw[f2j];omega),Int.toNat_natCast]
   obtain⟨t1,t2⟩:=e7g (x:=u) (by omega)
   rw[t1,a2a (x:=blen u) (by omega),show(((m:Nat):Int)+((blen u:Nat):Int))=((blen u+m:Nat):Int) by omega,a2a (by omega)]
 unfold a5t
 refine c0g (I:=fun s q=>∃u m:Nat,s=((u:Int),(m:Int))∧u<4294967296∧m≤32∧q=some ((((blen u+m:Nat):Int),()),())) ?_ ?_
 ·rintro _ _ ⟨u,m,rfl,hu,hm,rfl⟩
  refine c0g (I:=fun s q=>∃u m:Nat,s=((u:Int),(m:Int))∧u<65536∧m≤48∧q=some ((((blen u+m:Nat):Int),()),())) ?_ ?_
  ·rintro _ _ ⟨u,m,rfl,hu,hm,rfl⟩
   exact last u m hu hm
  ·intro J hJ
   dsimp only
   by_cases h:65536≤u
   ·rw[if_pos (by simp;omega)]
    have e:=c5g u 16 (by omega)
    have h3:=c0i 16 u (by omega)
    rw[show((16:Int))=((16:Nat):Int) from rfl,e,show((m:Int)+((16:Nat):Int))=((m+16:Nat):Int) by omega,a2a (by omega),hJ _ _ ⟨_,_,rfl,by omega,by omega,rfl⟩,h3]
    rw[show blen (u / 2 ^ 16)+(m+16)=blen (u / 2 ^ 16)+16+m by omega]
   ·rw[if_neg (by simp;omega),hJ _ _ ⟨_,_,rfl,by omega,by omega,rfl⟩]
 ·intro J hJ
  dsimp only
  by_cases h:4294967296≤v
  ·rw[if_pos (by simp;omega)]
   have e:=c5g v 32 (by omega)
   have h3:=c0i 32 v (by omega)
   rw[show((32:Int))=((32:Nat):Int) from rfl,e,hJ _ _ ⟨_,_,rfl,by omega,by omega,rfl⟩,h3]
  ·rw[if_neg (by simp;omega),show((v:Int),(0:Int))=((v:Int),((0:Nat):Int)) from rfl,hJ _ _ ⟨v,0,rfl,by omega,by omega,rfl⟩,Nat.add_zero]
theorem b3g{n:Nat}{l:List Int}(hl:∀x,x∈l→0≤x∧x<18446744073709551616)(hn:l.length<n)(hc:l.length<1000000):a5m n (l,())=some ((((a5j l:Nat):Int),()),()):=by
 unfold a5m
 dsimp only
 refine a1n (st:=fun i=>(((a5j (l.take i):Nat):Int),(i:Int))) l.length (by simp[a5j]) ?_ ?_ hn
 ·intro rec i hi
  have hx:=hl _ (List.getElem_mem hi)
  dsimp only
  rw[if_pos (by simp;omega),a0c hi,Int.toNat_natCast,a0h hi]
  obtain⟨v,hv⟩:∃v:Nat,l[i]=(v:Int):=⟨_,(Int.toNat_of_nonneg hx.1).symm⟩
  rw[hv,e8x (by omega)]
  simp only[Option.bind_some]
  rw[a0e (by omega)]
  congr 2
  rw[List.take_succ_eq_append_getElem hi]
  unfold a5j
  rw[List.foldl_append]
  simp only[List.foldl_cons,List.foldl_nil,hv,Int.toNat_natCast]
  split <;> omega
 ·intro rec
  simp
theorem c0r{m:Nat}(h:m<1000000000)(n:Nat):a9f n ((m:Int),())=some (((((m+7) / 8:Nat):Int),()),()):=by
 unfold a9f
 dsimp only
 rw[show((m:Int)+7)=((m+7:Nat):Int) by omega,a2a (by omega),show((8:Int))=((8:Nat):Int) from rfl,b2b,a2a (by omega)]
def Nums(l:List Int):Prop:=∀x,x∈l→0≤x∧x<18446744073709551616
theorem b5z{n:Nat}{l:List Int}{w:Nat}(hl:Nums l)(hn:l.length<n)(hnw:64<n)(hc:l.length<100000) :
  a7w n (l,(w:Int),())=some (if w≤64∧a5j l≤w then(b1k l w,true,()) else([],false,()),()):=by
 unfold a7w
 dsimp only
 rw[if_neg (by simp)]
 by_cases hw:w≤64
 rotate_left
 ·rw[if_pos (by simp;omega),if_neg (by omega)]
 rw[if_neg (by simp;omega),b3g hl hn (by omega)]
 simp only[Option.bind_some]
 by_cases hwl:a5j l≤w
 rotate_left
 ·rw[if_pos (by simp;omega),if_neg (by omega)]
 rw[if_neg (by simp;omega),if_pos ⟨hw,hwl⟩]
 have hmul:l.length*w≤l.length*64:=Nat.mul_le_mul_left _ hw
 have hr:=a2k
 rw[show((l.length:Int)*(w:Int))=((l.length*w:Nat):Int) by push_cast;rfl,a2a (by omega),c0r (by omega)]
 simp only[Option.bind_some]
 rw[if_pos (by refine⟨by omega,by omega,?_⟩;omega)]
 have hb:=b7r l w
 refine a1n (st:=fun i=>(a7b (bitL l w) ((l.length*w+7) / 8) (i*w),(i:Int))) l.length (by rw[Nat.zero_mul,c5z,Int.toNat_natCast];rfl) ?_ ?_ hn
 ·intro rec i hi
  have hiw:i*w+w≤l.length*w:=by
   have:=Nat.mul_le_mul_right w (show i+1≤l.length from hi)
   rwa [Nat.add_mul,Nat.one_mul] at this
  dsimp only
  rw[if_pos (by simp;omega),a0c hi]
  refine a1n (st:=fun k=>(a7b (bitL l w) ((l.length*w+7) / 8) (i*w+k),(k:Int))) w (by simp) ?_ ?_ (by omega)
  ·intro rec2 k hk
   dsimp only
   rw[if_pos (by simp;omega)]
   have e1:IntKind.i64.wrap ((IntKind.i64.wrap ((i:Int)*(w:Int)))+(k:Int))=((i*w+k:Nat):Int):=by
    rw[show((i:Int)*(w:Int))=((i*w:Nat):Int) by push_cast;rfl,a2a (by omega),show(((i*w:Nat):Int)+(k:Int))=((i*w+k:Nat):Int) by omega,a2a (by omega)]
   have e2:(((i*w+k:Nat):Int)).tdiv (8:Int)=(((i*w+k) / 8:Nat):Int):=by
    rw[show((8:Int))=((8:Nat):Int) from rfl,b2b]
   have e3:(((i*w+k:Nat):Int)).tmod (8:Int)=(((i*w+k) % 8:Nat):Int):=by
    rw[show((8:Int))=((8:Nat):Int) from rfl,c1y]
   have hlt:(i*w+k) / 8<(l.length*w+7) / 8:=by omega
   rw[e1,e2,e3,a2a (by omega),a0c (by rw[b0r];exact hlt),if_neg (by omega),if_neg (by omega),a0c (by rw[b0r];exact hlt)]
   simp only[Int.toNat_natCast]
   rw[a0e (by omega)]
   congr 2
   rw[show i*w+(k+1)=i*w+k+1 by omega,←c5y hlt]
   congr 1
   have hx:=hl _ (List.getElem_mem hi)
   obtain⟨v,hv⟩:∃v:Nat,l[i]=(v:Int):=⟨_,(Int.toNat_of_nonneg hx.1).symm⟩
   have hsm:=c5q hb (i*w+k)
   have hp8:2 ^ ((i*w+k) % 8)≤2 ^ 7:=Nat.pow_le_pow_right (by omega) (by omega)
   have hbit:bitL l w (i*w+k)=v / 2 ^ k % 2:=by
    unfold bitL
    rw[mul_add_div hk,mul_add_mod hk,a0h hi,hv,Int.toNat_natCast]
   have h2:=c5g v k (by omega)
   rw[Int.toNat_natCast] at h2
   have h3:bits .and .u64 ((v / 2 ^ k:Nat):Int) (1:Int)=((v / 2 ^ k % 2:Nat):Int):=by
    have hq:v / 2 ^ k≤v:=Nat.div_le_self _ _
    have:=d3n (x:=v / 2 ^ k) (y:=1) (by omega) (by omega)
    rw[Nat.and_one_is_mod] at this
    exact this
   have h4:=d5u (v / 2 ^ k % 2) ((i*w+k) % 8) 8 (by omega)
   rw[Int.toNat_natCast] at h4
   have h5:v / 2 ^ k % 2*2 ^ ((i*w+k) % 8)<256:=by
    have:v / 2 ^ k % 2*2 ^ ((i*w+k) % 8)≤1*2 ^ ((i*w+k) % 8):=Nat.mul_le_mul_right _ (by omega)
    omega
   rw[b5q hlt,a0h hi,hv,h2,h3,c6o (x:=v / 2 ^ k % 2) (by omega),show IntKind.u8.bits=8 from rfl,h4,c6o h5,d5b (c8b hb _ _) h5,e5j hsm,hbit]
  ·intro rec2
   dsimp only
   rw[if_neg (by simp),a0e (by omega),show i*w+w=(i+1)*w by rw[Nat.add_mul,Nat.one_mul]]
 ·intro rec
  dsimp only
  rw[if_neg (by simp)]
  rfl
def b2x(b:List Int)(n w p:Nat):List Int:=(List.range n).map fun i=>((a8t (bitB b) (i*w) (min w (p - i*w)):Nat):Int)
theorem d2y(b:List Int)(n w p:Nat):(b2x b n w p).length=n:=by simp[b2x]
theorem e7x{b:List Int}{n w p i:Nat}(h:i<n):(b2x b n w p).getD i 0=((a8t (bitB b) (i*w) (min w (p - i*w)):Nat):Int):=by
 rw[a0h (by simpa[b2x] using h)]
 simp[b2x]
theorem e2w{b:List Int}{n w p:Nat}(hw:0<w)(h:p / w<n):(b2x b n w p).set (p / w) (((a8t (bitB b) (p / w*w) (p % w)+bitB b p*2 ^ (p % w):Nat):Int))=b2x b n w (p+1):=by
 have hdm:=Nat.div_add_mod p w
 have hm:=Nat.mod_lt p hw
 rw[Nat.mul_comm] at hdm
 apply List.ext_getElem
 ·simp[b2x]
 ·intro i h1 h2
  rw[List.getElem_set]
  simp only[b2x,List.getElem_map,List.getElem_range]
  by_cases hi:p / w=i
  ·subst hi
   rw[if_pos rfl,show min w (p+1 - p / w*w)=p % w+1 by omega,a8t,show p / w*w+p % w=p by omega]
  ·rw[if_neg hi]
   congr 2
   rcases Nat.lt_or_ge i (p / w) with h3|h3
   ·have:i*w+w≤p / w*w:=by
     have:=Nat.mul_le_mul_right w (show i+1≤p / w from h3)
     rwa [Nat.add_mul,Nat.one_mul] at this
    omega
   ·have:p / w*w+w≤i*w:=by
     have:=Nat.mul_le_mul_right w (show p / w+1≤i by omega)
     rwa [Nat.add_mul,Nat.one_mul] at this
    omega
theorem c5m{b:List Int}{n w:Nat}(hw:w≤64):Nums (c0m b n w):=by
 intro x hx
 simp only[c0m,List.mem_map] at hx
 obtain⟨i,_,rfl⟩:=hx
 have h1:=c0a (e3y b) (i*w) w
 have h2:2 ^ w≤2 ^ 64:=Nat.pow_le_pow_right (by omega) hw
 omega
theorem e2j{b:List Int}{n w:Nat}:a5j (c0m b n w)≤w:=by
 rw[c3p]
 intro x hx
 simp only[c0m,List.mem_map] at hx
 obtain⟨i,_,rfl⟩:=hx
 exact c0a (e3y b) (i*w) w
def d1o(b:List Int)(n w:Int):List Int×Bool×Unit :=
 if 0≤n∧n≤1000∧0≤w∧w≤64∧b.length=(n.toNat*w.toNat+7) / 8∧b1k (c0m b n.toNat w.toNat) w.toNat=b then(c0m b n.toNat w.toNat,true,()) else([],false,())
theorem b4r{n:Nat}{b:List Int}{m w:Int}(hb:a4a b)(hl:b.length<1000000)(hn:64001<n):a9d n (b,m,w,())=some (d1o b m w,()):=by
 unfold a9d d1o
 dsimp only
 by_cases h1:m<0
 ·rw[if_pos (by simpa using h1),if_neg (by omega)]
 rw[if_neg (by simpa using h1)]
 by_cases h2:1000<m
 ·rw[if_pos (by simpa using h2),if_neg (by omega)]
 rw[if_neg (by simpa using h2)]
 by_cases h3:w<0
 ·rw[if_pos (by simpa using h3),if_neg (by omega)]
 rw[if_neg (by simpa using h3)]
 by_cases h4:64<w
 ·rw[if_pos (by simpa using h4),if_neg (by omega)]
 rw[if_neg (by simpa using h4)]
 obtain⟨M,rfl⟩:∃M:Nat,m=(M:Int):=⟨_,(Int.toNat_of_nonneg (by omega)).symm⟩
 obtain⟨W,rfl⟩:∃W:Nat,w=(W:Int):=⟨_,(Int.toNat_of_nonneg (by omega)).symm⟩
 simp only[Int.toNat_natCast]
 have hmul:M*W≤1000*64:=Nat.mul_le_mul (by omega) (by omega)
 have hr:=a2k
 rw[show((M:Int)*(W:Int))=((M*W:Nat):Int) by push_cast;rfl,a2a (by omega),c0r (by omega)]
 simp only[Option.bind_some]
 by_cases h5:b.length=(M*W+7) / 8
 rotate_left
 ·rw[if_pos (by simp;omega),if_neg (by omega)]
 rw[if_neg (by simp;omega),if_pos (by refine⟨by omega,by omega,?_⟩;omega)]
 refine a1n (st:=fun p=>(b2x b M W p,(p:Int))) (M*W) ?_ ?_ ?_ (by omega)
 ·have:b2x b M W 0=List.replicate M 0:=by
   apply List.ext_getElem
   ·simp[b2x]
   ·intro i q1 q2
    simp[b2x,a8t]
  rw[this];rfl
 ·intro rec p hp
  have hW:0<W:=by
   rcases Nat.eq_zero_or_pos W with h0|h0
   ·rw[h0] at hp;simp at hp
   ·exact h0
  have hpW:p / W<M:=(Nat.div_lt_iff_lt_mul hW).2 hp
  have hmW:=Nat.mod_lt p hW
  dsimp only
  have e2:((p:Int)).tdiv (W:Int)=((p / W:Nat):Int):=b2b p W
  have e3:((p:Int)).tmod (W:Int)=((p % W:Nat):Int):=c1y p W
  have e4:((p:Int)).tdiv (8:Int)=((p / 8:Nat):Int):=b2b p 8
  have e5:((p:Int)).tmod (8:Int)=((p % 8:Nat):Int):=c1y p 8
  rw[if_pos (by simp;omega),if_neg (by omega),e2,e3,e4,e5,a2a (x:=p / W) (by omega),a2a (x:=p / 8) (by omega),a0c (by rw[d2y];exact hpW),a0c (by omega),if_neg (by omega),if_neg (by omega),if_neg (by omega),a0c (by rw[d2y];exact hpW)]
  simp only[Int.toNat_natCast]
  rw[a0e (by omega)]
  congr 2
  rw[←e2w hW hpW]
  congr 1
  obtain⟨c,hc1,hc2,hc3⟩:=hb.get (i:=p / 8) (by omega)
  have hbit:bitB b p=c / 2 ^ (p % 8) % 2:=by
   unfold bitB
   rw[hc1,Int.toNat_natCast]
  have h6:=f8x c (p % 8) (by omega)
  rw[Int.toNat_natCast] at h6
  have h7:bits .and .u8 ((c / 2 ^ (p % 8):Nat):Int) (1:Int)=((c / 2 ^ (p % 8) % 2:Nat):Int):=by
   have hq:c / 2 ^ (p % 8)≤c:=Nat.div_le_self _ _
   have:=c2b (x:=c / 2 ^ (p % 8)) (y:=1) (by omega) (by omega)
   rw[Nat.and_one_is_mod] at this
   exact this
  have h8:=d5u (c / 2 ^ (p % 8) % 2) (p % W) 64 (by omega)
  rw[Int.toNat_natCast] at h8
  have hp64:2 ^ (p % W)≤2 ^ 63:=Nat.pow_le_pow_right (by omega) (by omega)
  have h9:c / 2 ^ (p % 8) % 2*2 ^ (p % W)<18446744073709551616:=by
   have:c / 2 ^ (p % 8) % 2*2 ^ (p % W)≤1*2 ^ (p % W):=Nat.mul_le_mul_right _ (by omega)
   omega
  have hdm:=Nat.div_add_mod p W
  rw[Nat.mul_comm] at hdm
  have h10:=c0a (e3y b) (p / W*W) (p % W)
  rw[e7x hpW,show min W (p - p / W*W)=p % W by omega,hc1,h6,h7,a7a (x:=c / 2 ^ (p % 8) % 2) (by omega),show IntKind.u64.bits=64 from rfl,h8,a7a h9,d0f (by omega) h9,e5j h10,hbit]
 ·intro rec
  dsimp only
  have hall:b2x b M W (M*W)=c0m b M W:=by
   unfold b2x c0m
   apply List.map_congr_left
   intro i hi
   have hi':i<M:=by simpa using hi
   have:i*W+W≤M*W:=by
    have:=Nat.mul_le_mul_right W (show i+1≤M from hi')
    rwa [Nat.add_mul,Nat.one_mul] at this
   rw[show min W (M*W - i*W)=W by omega]
  rw[if_neg (by simp),hall,b5z (c5m (by omega)) (by rw[c2g];omega) (by omega) (by rw[c2g];omega),if_pos ⟨by omega,e2j⟩]
  simp only[Option.bind_some,a0d]
  by_cases h6:b1k (c0m b M W) W=b
  ·rw[if_neg (by simp[h6]),if_pos ⟨by omega,by omega,by omega,by omega,h5,h6⟩]
  ·rw[if_pos (by simp[h6]),if_neg (fun h=>h6 h.2.2.2.2.2)]
end Go.Rb.R5

namespace Go.Rb.R5
open Go.Rb
abbrev d0:Vl:=((0:Int),(0:Int),[],())
theorem a2r(n:Nat)(v:Vl):a1f n (v,())=some ((mayV v,()),()):=by
 obtain⟨a,b,c,u⟩:=v
 unfold a1f mayV
 dsimp only
 by_cases h1:a=1
 ·subst h1
  by_cases h2:b < -32768
  ·have:¬(-32768≤b):=by omega
   simp[h2,this]
  ·by_cases h3:32767<b
   ·have:¬(b≤32767):=by omega
    simp[h2,h3,this]
   ·have e1:-32768≤b:=by omega
    have e2:b≤32767:=by omega
    simp[h2,h3,e1,e2]
 ·by_cases h2:a=2
  ·subst h2;simp
  ·by_cases h3:a=0
   ·subst h3
    by_cases h4:b=0 <;> simp[h4]
   ·by_cases h4:a=3
    ·subst h4
     by_cases h5:b=0
     ·simp[h5]
     ·by_cases h6:b=1 <;> simp[h5,h6]
    ·by_cases h5:a=4
     ·subst h5
      by_cases h6:b=0
      ·have:((c.length:Int)≤20)↔c.length≤20:=by omega
       simp[h6,this]
      ·simp[h6]
     ·simp[h1,h2,h3,h4,h5]
theorem e0a{n:Nat}{t:Int}{l:List Vl}(hn:l.length<n)(hc:l.length<1000000):b8k n (t,l,())=some ((a1z t l,()),()):=by
 unfold b8k a1z
 dsimp only
 by_cases h1:t<1
 ·have:¬(1≤t):=by omega
  simp[h1,this]
 by_cases h2:4<t
 ·have:¬(t≤4):=by omega
  simp[h1,h2,this]
 rw[if_neg (by simpa using h1),if_neg (by simpa using h2),b9g l (a0w t) (some ((false,()),())) (some ((true,()),())) hn]
 ·have e1:1≤t:=by omega
  have e2:t≤4:=by omega
  cases l.all (a0w t) <;> simp[e1,e2]
 ·intro rec i hi
  rw[if_pos (by simp;omega),a0c hi,Int.toNat_natCast,a0h hi,a2r,a0e (by omega)]
  simp only[Option.bind_some]
  unfold a0w
  by_cases h3:l[i].1=t
  ·cases mayV l[i] <;> simp[h3]
  ·simp[h3]
 ·intro rec
  simp
theorem d5x{n:Nat}{b:List Int}{t:Int}{v:Vl}(h:a0w t v=true)(hv:okV v)(hb:b.length<1000000)(hn:10≤n):b4z n (b,v,())=some ((b++oneV v,()),()):=by
 obtain⟨h1,h2⟩:=a2n h
 have hr:=a2k
 unfold b4z oneV
 dsimp only
 by_cases h3:v.1=3
 ·rw[if_pos (by simpa using h3),if_pos (by simp;omega),if_pos h3]
  rw[a8k (by rcases h2 with h2|h2|h2|h2|h2 <;> omega) (by rcases h2 with h2|h2|h2|h2|h2 <;> omega)]
 ·rw[if_neg (by simpa using h3),if_neg h3]
  by_cases h4:v.1=4
  ·have hl:v.2.2.1.length≤20:=by omega
   rw[if_pos (by simpa using h4),if_pos (by simp;omega),if_pos (by simp;omega),if_pos h4,a8k (by omega) (by omega)]
   simp
  ·have h5:=a5z (b7a hv.2.1.1 hv.2.1.2)
   rw[if_neg (by simpa using h4),if_neg h4,b1n hv.2.1.1 hv.2.1.2]
   simp only[Option.bind_some]
   rw[a6i (b7a hv.2.1.1 hv.2.1.2) hn]
   simp only[Option.bind_some]
   rw[if_pos (by omega)]
theorem b3u{n:Nat}{t:Int}{x y:Vl}(ht:t≠0)(hx:a0w t x=true)(hy:a0w t y=true):a1j n (x,y,())=some ((cmpR t x y,()),()):=by
 have a:=(a2n hx).1
 have b:=(a2n hy).1
 unfold a1j a7n a4o a3j a5s a4n a5u a2j csF cmpR
 dsimp only
 rw[a,b]
 by_cases h4:t=4
 ·subst h4
  simp
 ·unfold cmpZ
  simp only[ht,h4,decide_false,Bool.false_eq_true,if_false,Option.bind_some,decide_true,Bool.not_true]
  by_cases h1:x.2.1<y.2.1
  ·simp[h1]
  ·by_cases h2:y.2.1<x.2.1 <;> simp[h1,h2]
theorem e2k{n:Nat}{t:Int}{d:List Vl}{v:Vl}(ht:t≠0)(hd:∀x,x∈d→a0w t x=true)(hr:b1u (ltV t) d)(hv:v∈d)(hl:d.length<1000000)(hn:d.length+1<n) :
  a0k n (d,v,(fun c d=>(a1j n (c,d,())).bind fun r=>some r.1.1),())=some ((((posS d v:Nat):Int),true,()),()):=by
 have hp:=c4x hv
 have hg:=d4q hv
 unfold a0k
 dsimp only
 refine(b9t (I:=fun k (s:Int×Int)=>∃i j:Nat,s=((i:Int),(j:Int))∧i≤posS d v∧posS d v≤j∧j≤d.length∧j - i≤k)
  (res:=fun _=>some ((((posS d v:Nat):Int),true,()),())) ?_ n d.length _ ⟨0,d.length,rfl,by omega,by omega,by omega,by omega⟩ (by omega))
 rintro k _ rec ⟨i,j,rfl,h1,h2,h3,h4⟩ hrec
 dsimp only
 by_cases h5:i<j
 ·have e1:IntKind.i64.wrap ((IntKind.u64.wrap (IntKind.i64.wrap ((i:Int)+(j:Int)))).fdiv (2 ^ min (1:Int).toNat IntKind.u64.bits))=(((i+j) / 2:Nat):Int):=by
   rw[show((i:Int)+(j:Int))=((i+j:Nat):Int) by omega,a2a (by omega),a7a (by omega)]
   have:=c5g (i+j) 1 (by omega)
   rw[show((1:Int))=((1:Nat):Int) from rfl,this,a2a (by omega)]
  have hm:(i+j) / 2<d.length:=by omega
  rw[if_pos (by simp;omega),e1,a0c hm,Int.toNat_natCast,a0h hm,b3u ht (hd _ (List.getElem_mem hm)) (hd v hv)]
  simp only[Option.bind_some]
  have hless:=f1j (b1s t) hd hr hv hm
  by_cases h6:(i+j) / 2<posS d v
  ·have:=e2p.2 (hless.2 h6)
   rw[if_pos (by simpa using this),a0e (by omega)]
   exact hrec (j - ((i+j) / 2+1)) _ (by omega) ⟨_,_,rfl,by omega,by omega,by omega,by omega⟩
  ·have:¬cmpR t d[(i+j) / 2] v<0:=fun h=>h6 (hless.1 (e2p.1 h))
   rw[if_neg (by simpa using this)]
   exact hrec ((i+j) / 2 - i) _ (by omega) ⟨_,_,rfl,by omega,by omega,by omega,by omega⟩
 ·obtain rfl:i=posS d v:=by omega
  rw[if_neg (by simp;omega),if_pos (by simp;omega),a0c hp,Int.toNat_natCast,a0h hp,hg,b3u ht (hd v hv) (hd v hv)]
  simp only[Option.bind_some]
  rw[(g0y (hd v hv) (hd v hv)).2 rfl]
  rfl
theorem b3f{n m:Nat}(hm:m<1000000)(hn:2<n):a7q n ((m:Int),())=some ((((blen (m - 1):Nat):Int),()),()):=by
 unfold a7q
 dsimp only
 have e:IntKind.u64.wrap (if(0:Int)≤(IntKind.i64.wrap ((m:Int) - 1)) then(IntKind.i64.wrap ((m:Int) - 1)) else(0:Int))=((m - 1:Nat):Int):=by
  rw[a0j (x:=(m:Int) - 1) (by omega) (by omega)]
  split
  ·rw[show((m:Int) - 1)=((m - 1:Nat):Int) by omega,a7a (by omega)]
  ·have:m=0:=by omega
   subst this
   rfl
 rw[e,b3g (by intro x hx;simp at hx;subst hx;omega) (by simp;omega) (by simp)]
 simp[a5j]
theorem b6f{n:Nat}{t:Int}{l:List Vl}(hv:∀v,v∈l→okV v)(hl:l.length≤1000)(hn:2000≤n) :
  b0d n (t,l,())=some (if a1z t l=true then(c1t t l,true,()) else([],false,()),()):=by
 unfold b0d
 dsimp only
 rw[e0a (by omega) (by omega)]
 simp only[Option.bind_some]
 cases h:a1z t l with
 |false=>rfl
 |true =>
  obtain⟨ht1,ht4,hr⟩:=a5c h
  have hR:=b9w h hv
  have hdl:=d3v (ltV t) l
  have hro:=a2k
  simp only[Bool.not_true,Bool.false_eq_true,if_false,if_true]
  unfold a0b a0z a1c g3m g1p
  dsimp only
  simp only[Option.bind_some]
  have hcs:=f3b (t:=t) (by omega) (fun x hx=>⟨hr x hx,hv x hx⟩)
  have hcs':d8m (Ty.st (.pair tI (.pair tI (.pair .str .unit)))) (Sort.pdq (Go.Proofs.ltOf cfV) l.toArray 0 l.length (Lib.bitLen l.length) true true).toList=b4t t l:=hcs
  rw[hcs']
  obtain⟨D,hD⟩:∃D,b4t t l=D:=⟨_,rfl⟩
  have hDl:D.length≤l.length:=by rw[←hD];exact hdl
  have hDr:∀v,v∈D→a0w t v=true∧okV v:=by rw[←hD];exact hR
  have hDri:b1u (ltV t) D:=by rw[←hD];exact d0g (b1s t) hr
  have hDm:∀v,v∈l→v∈D:=fun v hm=>by rw[←hD];exact(b6o (b1s t) hr v).2 hm
  have hfl:=a3o hDr
  rw[hD,a7a (by omega),a6i (by omega) (by omega)]
  simp only[Option.bind_some]
  have hp10:=a5z (v:=D.length) (by omega)
  refine a1n (st:=fun i=>(putN D.length++(D.take i).flatMap oneV,(i:Int))) D.length (by simp) ?_ ?_ (by omega)
  ·intro rec i hi
   dsimp only
   have hlen:=a3o (d:=D.take i) fun v hv=>hDr v (List.mem_of_mem_take hv)
   have hti:(D.take i).length≤D.length:=by simp;omega
   rw[if_pos (by simp;omega),a0c hi,Int.toNat_natCast,a0h hi,d5x (hDr _ (List.getElem_mem hi)).1 (hDr _ (List.getElem_mem hi)).2 (by simp only[List.length_append];omega) (by omega)]
   simp only[Option.bind_some]
   rw[a0e (by omega),c5t _ hi,List.append_assoc]
  ·intro rec
   dsimp only
   rw[if_neg (by simp)]
   refine a1n (st:=fun i=>((l.take i).map (fun v=>((posS D v:Nat):Int)),(i:Int))) l.length (by simp) ?_ ?_ (by omega)
   ·intro rec2 i hi
    dsimp only
    rw[if_pos (by simp;omega),a0c hi,Int.toNat_natCast,a0h hi,e2k (by omega) (fun x hx=>(hDr x hx).1) hDri (hDm _ (List.getElem_mem hi)) (by omega) (by omega)]
    simp only[Option.bind_some]
    have:=c4x (hDm _ (List.getElem_mem hi))
    rw[a7a (by omega),if_pos (by simp;omega),a0e (by omega),map_take _ hi]
   ·intro rec2
    dsimp only
    rw[if_neg (by simp),b3f (by omega) (by omega)]
    simp only[Option.bind_some]
    have hpl:(l.take l.length).map (fun v=>((posS D v:Nat):Int))=a4j t l:=by
     unfold a4j
     rw[hD,List.take_length]
    have hb10:blen (D.length - 1)≤10:=c4n (by omega)
    have hsm:=b4f h
    rw[hD] at hsm
    rw[hpl,b5z (fun x hx=>by have:=c9y h x hx;rw[hD] at this;omega) (by rw[a4p];omega) (by omega) (by rw[a4p];omega),if_pos ⟨by omega,c3p.2 fun x hx=>(hsm x hx).2⟩]
    simp only[Option.bind_some]
    have hmul:l.length*blen (D.length - 1)≤1000*10:=Nat.mul_le_mul hl hb10
    have ht:D.take D.length=D:=List.take_length
    rw[ht,if_pos (by simp only[List.length_append,a6s,a4p];omega)]
    unfold c1t
    rw[hD,List.append_assoc]
end Go.Rb.R5

namespace Go.Rb.R5
open Go.Rb
def errD(msg:List Int):UV:=UV.node a2t (.pair (.str msg) (.pair (UV.sent a1g) .unit))
def c3f(t:Int)(b:List Int)(y:(Vl×Int×UV×Unit)×Unit):Prop :=
 match a5d t b with
 |some (v,k)=>y=((v,(k:Int),UV.nil,()),())
 |none=>∃v msg,y=((v,(0:Int),errD msg,()),())
theorem b5e{n:Nat}{t:Int}{b:List Int}(hb:a4a b)(hl:b.length<1000000)(hn:11≤n):Gets (b0x n (t,b,())) (c3f t b):=by
 unfold b0x
 refine Gets.join (I:=fun s=>s=(t,(0:Int),([]:List Int),())∧t=4∧b≠[]) ?_ ?_
 ·rintro _ ⟨rfl,rfl,hne⟩
  dsimp only
  cases b with
  |nil=>exact absurd rfl hne
  |cons c l =>
   have hc:=hb c (by simp)
   have e0:(c::l).getD ((0:Int)).toNat (0:Int)=c:=rfl
   refine Gets.atI (by omega) (by simp) ?_
   rw[e0,a0j (x:=c) (by omega) (by omega),a0j (by omega) (by omega)]
   have e1:(1+c).toNat=1+c.toNat:=by omega
   by_cases h:1+c.toNat≤(c::l).length
   ·rw[if_neg (by simp at h ⊢;omega),if_pos (by simp at h ⊢;omega)]
    refine Gets.some ?_
    unfold c3f a5d
    rw[if_neg (by simp)]
    dsimp only
    rw[if_neg (by decide),if_pos h,e1]
    dsimp only
    rw[show(1+c)=((1+c.toNat:Nat):Int) by omega]
    rfl
   ·rw[if_pos (by simp at h ⊢;omega)]
    refine Gets.some ?_
    unfold c3f a5d
    rw[if_neg (by simp)]
    dsimp only
    rw[if_neg (by decide),if_neg h]
    exact⟨_,_,rfl⟩
 ·intro J hJ
  dsimp only
  have two:(t=3∨t=4)→Gets (if(decide ((b.length:Int)=0))=true then(some (((t,(0:Int),([]:List Int),()),(0:Int),(UV.node a2t (.pair (.str [110,111,32,98,121,116,101]) (.pair (UV.sent a1g) .unit))),()),())) else(if(decide (t=3))=true then(atI (0:Int) b.length (some (((t,(IntKind.i64.wrap (b.getD (0:Int).toNat (0:Int))),([]:List Int),()),(1:Int),UV.nil,()),()))) else(J (t,(0:Int),([]:List Int),())))) (c3f t b):=by
   intro ht
   cases b with
   |nil =>
    rw[if_pos (by simp)]
    refine Gets.some ?_
    unfold c3f a5d
    rw[if_neg (by omega)]
    exact⟨_,_,rfl⟩
   |cons c l =>
    have hc:=hb c (by simp)
    rw[if_neg (by simp;omega)]
    by_cases h3:t=3
    ·rw[if_pos (by simpa using h3)]
     refine Gets.atI (by omega) (by simp) (Gets.some ?_)
     unfold c3f a5d
     rw[if_neg (by omega)]
     dsimp only
     rw[if_pos h3,show(c::l).getD ((0:Int)).toNat (0:Int)=c from rfl,a0j (by omega) (by omega)]
     rfl
    ·rw[if_neg (by simpa using h3)]
     exact hJ _ ⟨rfl,by omega,by simp⟩
  by_cases h3:t=3
  ·rw[if_neg (by simp[h3])]
   exact two (.inl h3)
  ·rw[if_pos (by simp[h3])]
   by_cases h4:t=4
   ·rw[if_neg (by simp[h4])]
    exact two (.inr h4)
   ·rw[if_pos (by simp[h4]),a4e hb hl hn]
    simp only[Option.bind_some]
    have hfv:a5d t b=(match a5a b with|some (u,k)=>some ((t,zag u,[],()),k)|none=>none):=by
     unfold a5d
     rw[if_pos ⟨h3,h4⟩]
     rfl
    unfold c3f
    rw[hfv]
    cases htk:a5a b with
    |none =>
     dsimp only
     rw[if_pos (by simp)]
     exact Gets.some ⟨_,_,rfl⟩
    |some r =>
     obtain⟨u,k⟩:=r
     dsimp only
     rw[if_neg (by simp),b1p (a4q hb htk).1]
     exact Gets.some rfl
def Good(t m:Int)(b:List Int)(l:List Vl):Prop:=0≤m∧m≤1000∧(l.length:Int)=m∧a1z t l=true∧(∀v,v∈l→okV v)∧c1t t l=b
def g5n(t m:Int)(b:List Int)(y:(List Vl×UV×Unit)×Unit):Prop:=(∃l,y=((l,UV.nil,()),())∧Good t m b l)∨∃msg,y=(([],errD msg,()),())
theorem a4a.drop{b:List Int}(h:a4a b)(k:Nat):a4a (b.drop k):=fun x hx=>h x (List.mem_of_mem_drop hx)
theorem c6r{n:Nat}{t m:Int}{b:List Int}(ht:-9223372036854775808≤t∧t≤9223372036854775807)(hb:a4a b)(hl:b.length<1000000)(hn:70000≤n) :
  Gets (a8x n (t,m,b,())) (g5n t m b):=by
 have hro:=a2k
 have bad:∀msg,Gets (some ((([]:List Vl),errD msg,()),())) (g5n t m b):=fun msg=>Gets.some (.inr ⟨msg,rfl⟩)
 unfold a8x
 dsimp only
 rw[a4e hb hl (by omega)]
 simp only[Option.bind_some]
 by_cases h1:m<0
 ·rw[if_pos (by simpa using h1)];exact bad _
 rw[if_neg (by simpa using h1)]
 by_cases h2:1000<m
 ·rw[if_pos (by simpa using h2)];exact bad _
 rw[if_neg (by simpa using h2)]
 obtain⟨M,rfl⟩:∃M:Nat,m=(M:Int):=⟨_,(Int.toNat_of_nonneg (by omega)).symm⟩
 cases htk:a5a b with
 |none =>
  dsimp only
  rw[if_pos (by simp)];exact bad _
 |some r =>
  obtain⟨u,k⟩:=r
  have hT:=a4q hb htk
  dsimp only
  rw[if_neg (by simp),a7a (by omega)]
  by_cases h3:M<u
  ·rw[if_pos (by simp;omega)];exact bad _
  rw[if_neg (by simp;omega),if_pos (by omega)]
  refine Gets.iter (I:=fun s:List Vl×List Int×List Vl×Int=>∃(rest:List Int) (all:List Vl),s=([],rest,all,(all.length:Int))∧a4a rest∧rest.length<1000000∧all.length≤u∧∀v,v∈all→okV v)
   (μ:=fun s=>u - s.2.2.1.length) ⟨_,[],rfl,?_,?_,by simp,by simp⟩ (by simp;omega) ?_
  ·simp only[Int.toNat_natCast,List.take_length];exact hb.drop _
  ·simp only[Int.toNat_natCast,List.take_length,List.length_drop];omega
  rintro rec _ ⟨rest,all,rfl,g1,g2,g3,g4⟩ hrec
  dsimp only
  by_cases h4:all.length<u
  ·rw[if_pos (by simp;omega)]
   refine Gets.bind (b5e (n:=n) (t:=t) g1 g2 (by omega)) fun y hy=>?_
   unfold c3f at hy
   cases hf:a5d t rest with
   |none =>
    rw[hf] at hy
    obtain⟨v,msg,rfl⟩:=hy
    dsimp only
    rw[if_pos (by simp[errD])];exact bad _
   |some r =>
    obtain⟨v,k'⟩:=r
    rw[hf] at hy
    subst hy
    obtain⟨q1,q2,q3,q4⟩:=c9v ht g1 hf
    dsimp only
    rw[if_neg (by simp),if_pos (by simp;omega),if_pos (by omega)]
    refine hrec _ ⟨List.drop ((k':Nat):Int).toNat (List.take ((rest.length:Nat):Int).toNat rest),all++[v],?_,?_,?_,by simp;omega,?_⟩ (by simp;omega)
    ·rw[show IntKind.u64.wrap ((all.length:Int)+1)=(((all++[v]).length:Nat):Int) by simp;rw[d5i (by omega) (by omega)]]
    ·simp only[Int.toNat_natCast,List.take_length];exact g1.drop _
    ·simp only[Int.toNat_natCast,List.take_length,List.length_drop];omega
    ·intro x hx
     rcases List.mem_append.1 hx with hx|hx
     ·exact g4 x hx
     ·simp at hx;subst hx;exact q1
  ·rw[if_neg (by simp;omega),b3f (by omega) (by omega)]
   simp only[Option.bind_some]
   rw[b4r g1 g2 (by omega)]
   simp only[Option.bind_some]
   have hal:all.length=u:=by omega
   unfold d1o
   split
   ·rename_i hok
    dsimp only
    rw[if_neg (by simp)]
    have hnum:=c5m (b:=rest) (n:=((M:Int)).toNat) (w:=(((blen (all.length - 1):Nat):Int)).toNat) (by omega)
    have hplen:=c2g rest ((M:Int)).toNat (((blen (all.length - 1):Nat):Int)).toNat
    generalize c0m rest ((M:Int)).toNat (((blen (all.length - 1):Nat):Int)).toNat=places at hnum hplen ⊢
    rw[Int.toNat_natCast] at hplen
    refine Gets.iter (I:=fun s:List Vl×Int=>s.2=(s.1.length:Int)∧s.1.length≤places.length∧∀v,v∈s.1→okV v) (μ:=fun s=>places.length - s.1.length) ⟨by simp,by simp,by simp⟩ (by simp;omega) ?_
    rintro rec2 ⟨l,i⟩ ⟨k1,k2,k3⟩ hrec2
    dsimp only at k1 k2 k3
    subst k1
    dsimp only
    by_cases h5:l.length<places.length
    ·have hx:=hnum _ (List.getElem_mem h5)
     rw[if_pos (by simp;omega),a0c h5,Int.toNat_natCast,a0h h5]
     obtain⟨p,hp⟩:∃p:Nat,places[l.length]=(p:Int):=⟨_,(Int.toNat_of_nonneg hx.1).symm⟩
     rw[hp]
     by_cases h6:u≤p
     ·rw[if_pos (by simp;omega)];exact bad _
     ·have hpl:p<all.length:=by omega
      rw[if_neg (by simp;omega),a0c hpl,Int.toNat_natCast,a0h hpl,if_pos (by simp;omega),a0e (by omega)]
      refine hrec2 _ ⟨by simp,by simp;omega,fun x hx=>?_⟩ (by simp;omega)
      rcases List.mem_append.1 hx with hx|hx
      ·exact k3 x hx
      ·simp at hx;subst hx;exact g4 _ (List.getElem_mem hpl)
    ·rw[if_neg (by simp;omega)]
     rw[b6f k3 (by omega) (by omega)]
     simp only[Option.bind_some]
     cases hright:a1z t l with
     |false =>
      rw[if_neg Bool.false_ne_true]
      dsimp only
      rw[if_pos (by simp)];exact bad _
     |true =>
      rw[if_pos rfl]
      dsimp only
      rw[if_neg (by simp)]
      unfold a0d
      simp only[Option.bind_some]
      by_cases h7:c1t t l=b
      ·rw[if_neg (by simp[h7])]
       exact Gets.some (.inl ⟨l,rfl,by omega,by omega,by omega,hright,k3,h7⟩)
      ·rw[if_pos (by simp[h7])];exact bad _
   ·dsimp only
    rw[if_pos (by simp)];exact bad _
theorem c6z{n:Nat}{t:Int}{l:List Vl}(hv:∀v,v∈l→okV v)(hr:a1z t l=true)(hl:l.length≤1000)(hn:70000≤n) :
  a8x n (t,(l.length:Int),c1t t l,())=some ((l,UV.nil,()),()):=by
 have hro:=a2k
 obtain⟨ht1,ht4,hrr⟩:=a5c hr
 have hb:=e5f hr hv
 have hbl:=d7w hr hv hl
 have hdl:=d3v (ltV t) l
 have hR:=b9w hr hv
 have hsm:=b4f hr
 have hplt:=c9y hr
 have hback:=c1r hr
 obtain⟨b,hbd⟩:∃b,c1t t l=b:=⟨_,rfl⟩
 rw[hbd] at hb hbl ⊢
 have hbd':=hbd
 unfold c1t at hbd'
 obtain⟨D,hD⟩:∃D,b4t t l=D:=⟨_,rfl⟩
 rw[hD] at hbd' hR hsm hplt hback
 have hDl:D.length≤l.length:=by rw[←hD];exact hdl
 have htk:a5a b=some (D.length,(putN D.length).length):=by rw[←hbd'];exact a9n _ _ (by omega)
 have hdrop:b.drop (putN D.length).length=D.flatMap oneV++b1k (a4j t l) (blen (D.length - 1)):=by rw[←hbd'];simp
 have hb10:blen (D.length - 1)≤10:=c4n (by omega)
 have hmul:l.length*blen (D.length - 1)≤1000*10:=Nat.mul_le_mul hl hb10
 have hkl:=(a4q hb htk).2.1
 have hfl:=a3o hR
 have hbits:a4a (b1k (a4j t l) (blen (D.length - 1))):=c0h (b7r _ _)
 unfold a8x
 dsimp only
 rw[a4e hb (by omega) (by omega),htk]
 simp only[Option.bind_some]
 rw[if_neg (by simp),if_neg (by simp;omega),if_neg (by simp),a7a (by omega),if_neg (by simp;omega),if_pos (by omega)]
 refine a1n (st:=fun i=>(([]:List Vl),(D.drop i).flatMap oneV++b1k (a4j t l) (blen (D.length - 1)),D.take i,(i:Int))) D.length ?_ ?_ ?_ (by omega)
 ·simp only[Int.toNat_natCast,List.take_length,hdrop];simp
 ·intro rec i hi
  have hsub:∀v,v∈D.drop i→a0w t v=true∧okV v:=fun v hm=>hR v (List.mem_of_mem_drop hm)
  have hfl2:=a3o hsub
  have hrest:a4a ((D.drop i).flatMap oneV++b1k (a4j t l) (blen (D.length - 1))):=by
   intro x hx
   rcases List.mem_append.1 hx with hx|hx
   ·exact b4o hsub x hx
   ·exact hbits x hx
  have hlen:((D.drop i).flatMap oneV++b1k (a4j t l) (blen (D.length - 1))).length<1000000:=by
   simp only[List.length_append,a6s,a4p]
   simp only[List.length_drop] at hfl2
   omega
  have hdi:D.drop i=D[i]::D.drop (i+1):=List.drop_eq_getElem_cons hi
  have hRi:=hR _ (List.getElem_mem hi)
  have hfst:=b9r hRi.1 hRi.2 ((D.drop (i+1)).flatMap oneV++b1k (a4j t l) (blen (D.length - 1)))
  obtain⟨y,hy1,hy2⟩:=b5e (n:=n) (t:=t) hrest hlen (by omega)
  dsimp only
  rw[if_pos (by simp;omega),hy1]
  rw[hdi] at hy2 hlen ⊢
  rw[List.flatMap_cons,List.append_assoc] at hy2 hlen ⊢
  unfold c3f at hy2
  rw[hfst] at hy2
  subst hy2
  simp only[Option.bind_some]
  rw[if_neg (by simp),if_pos (by simp;omega),if_pos (by refine⟨by omega,?_⟩;simp only[List.length_append];omega),d5i (by omega) (by omega)]
  simp only[Int.toNat_natCast,List.take_length,List.drop_left,List.take_succ_eq_append_getElem hi]
  rfl
 ·intro rec
  dsimp only
  rw[if_neg (by simp),List.drop_length,List.flatMap_nil,List.nil_append,List.take_length,b3f (by omega) (by omega)]
  simp only[Option.bind_some]
  rw[b4r hbits (by rw[a6s,a4p];omega) (by omega)]
  simp only[Option.bind_some]
  have hbb:c0m (b1k (a4j t l) (blen (D.length - 1))) l.length (blen (D.length - 1))=a4j t l:=by
   have:=b6g (l:=a4j t l) (w:=blen (D.length - 1)) hsm
   rwa [a4p] at this
  unfold d1o
  split
  rotate_left
  ·rename_i hno
   exfalso
   apply hno
   simp only[Int.toNat_natCast,hbb]
   exact⟨by omega,by omega,by omega,by omega,by rw[a6s,a4p],trivial⟩
  simp only[Int.toNat_natCast,hbb]
  rw[if_neg (by simp)]
  refine a1n (st:=fun i=>(((a4j t l).take i).map (fun p=>D.getD p.toNat d0),(i:Int))) (a4j t l).length (by simp) ?_ ?_ (by rw[a4p];omega)
  ·intro rec2 i hi
   have hx:=hplt _ (List.getElem_mem hi)
   have hil:i<l.length:=by rw[a4p] at hi;exact hi
   dsimp only
   obtain⟨p,hp⟩:∃p:Nat,(a4j t l)[i]=(p:Int):=⟨_,(Int.toNat_of_nonneg hx.1).symm⟩
   have hpl:p<D.length:=by rw[hp,Int.toNat_natCast] at hx;exact hx.2
   rw[if_pos (by simp;omega),a0c hi,Int.toNat_natCast,a0h hi,hp,if_neg (by simp;omega),a0c hpl,Int.toNat_natCast,if_pos (by simp;omega),a0e (by omega),map_take _ hi,hp,Int.toNat_natCast]
  ·intro rec2
   dsimp only
   rw[if_neg (by simp),List.take_length,hback]
   rw[b6f hv hl (by omega),if_pos hr]
   simp only[Option.bind_some]
   rw[if_neg (by simp),hbd]
   unfold a0d
   simp
theorem c7e{n:Nat}{t m:Int}{b:List Int}(ht:-9223372036854775808≤t∧t≤9223372036854775807)(hb:a4a b)(hl:b.length<1000000)(hn:70000≤n) :
  Gets (b0n n (t,m,b,())) fun y=>(∃l,y=((l,true,()),())∧Good t m b l)∨(y=(([],false,()),())∧∀l,¬Good t m b l):=by
 unfold b0n a0y
 dsimp only
 obtain⟨y,h1,h2⟩:=c6r (m:=m) ht hb hl hn
 rw[h1]
 simp only[Option.bind_some]
 rcases h2 with⟨l,rfl,hg⟩|⟨msg,rfl⟩
 ·exact Gets.some (.inl ⟨l,rfl,hg⟩)
 ·refine Gets.some (.inr ⟨rfl,fun l hg=>?_⟩)
  obtain⟨g1,g2,g3,g4,g5,g6⟩:=hg
  have:=c6z (n:=n) g5 g4 (by omega) hn
  rw[g6,g3,h1] at this
  simp[errD] at this
end Go.Rb.R5

namespace Go.Rb.R5
open Go.Rb
theorem eqVl(x y:Vl):((decide (x.1=y.1))&&((decide (x.2.1=y.2.1))&&(decide (x.2.2.1=y.2.2.1))))=decide (x=y):=by
 obtain⟨a,b,c,u⟩:=x
 obtain⟨a',b',c',u'⟩:=y
 by_cases h1:a=a' <;> by_cases h2:b=b' <;> by_cases h3:c=c' <;> simp[h1,h2,h3]
theorem d6h{n:Nat}{t:Int}{l:List Vl}(hn:l.length<n)(hc:l.length<1000000):b5h n (t,l,())=some ((a1z t l,()),()):=by
 unfold b5h a1z
 dsimp only
 by_cases h1:t<1
 ·have:¬(1≤t):=by omega
  simp[h1,this]
 by_cases h2:4<t
 ·have:¬(t≤4):=by omega
  simp[h1,h2,this]
 rw[if_neg (by simpa using h1),if_neg (by simpa using h2),b9g l (a0w t) (some ((false,()),())) (some ((true,()),())) hn]
 ·have e1:1≤t:=by omega
  have e2:t≤4:=by omega
  cases l.all (a0w t) <;> simp[e1,e2]
 ·intro rec i hi
  rw[if_pos (by simp <;> omega),a0c hi,Int.toNat_natCast,a0h hi,a2r,a0e (by omega)]
  simp only[Option.bind_some]
  unfold a0w
  by_cases h3:l[i].1=t
  ·cases mayV l[i] <;> simp[h3]
  ·simp[h3]
 ·intro rec
  simp
theorem d1i{n:Nat}{b:List Int}{t:Int}{v:Vl}(h:a0w t v=true)(hv:okV v)(hb:b.length<1000000)(hn:10≤n):b2y n (b,v,())=some ((b++oneV v,()),()):=by
 obtain⟨h1,h2⟩:=a2n h
 have hr:=a2k
 unfold b2y oneV
 dsimp only
 by_cases h3:v.1=3
 ·rw[if_pos (by simpa using h3),if_pos (by simp <;> omega),if_pos h3]
  rw[a8k (by rcases h2 with h2|h2|h2|h2|h2 <;> omega) (by rcases h2 with h2|h2|h2|h2|h2 <;> omega)]
 ·rw[if_neg (by simpa using h3),if_neg h3]
  by_cases h4:v.1=4
  ·have hl:v.2.2.1.length≤20:=by omega
   rw[if_pos (by simpa using h4),if_pos (by simp <;> omega),if_pos (by simp <;> omega),if_pos h4,a8k (by omega) (by omega)]
   simp
  ·have h5:=a5z (b7a hv.2.1.1 hv.2.1.2)
   rw[if_neg (by simpa using h4),if_neg h4,b1n hv.2.1.1 hv.2.1.2]
   simp only[Option.bind_some]
   rw[a6i (b7a hv.2.1.1 hv.2.1.2) hn]
   simp only[Option.bind_some]
   rw[if_pos (by omega)]
def errA(msg:List Int):UV:=UV.node a3p (.pair (.str msg) (.pair (UV.sent a1w) .unit))
def b8v(t:Int)(b:List Int)(y:(Vl×Int×UV×Unit)×Unit):Prop :=
 match a5d t b with
 |some (v,k)=>y=((v,(k:Int),UV.nil,()),())
 |none=>∃v msg,y=((v,(0:Int),errA msg,()),())
theorem c3t{n:Nat}{t:Int}{b:List Int}(hb:a4a b)(hl:b.length<1000000)(hn:11≤n):Gets (a9y n (t,b,())) (b8v t b):=by
 unfold a9y
 refine Gets.join (I:=fun s=>s=(t,(0:Int),([]:List Int),())∧t=4∧b≠[]) ?_ ?_
 ·rintro _ ⟨rfl,rfl,hne⟩
  dsimp only
  cases b with
  |nil=>exact absurd rfl hne
  |cons c l =>
   have hc:=hb c (by simp)
   have e0:(c::l).getD ((0:Int)).toNat (0:Int)=c:=rfl
   refine Gets.atI (by omega) (by simp) ?_
   rw[e0,a0j (x:=c) (by omega) (by omega),a0j (by omega) (by omega)]
   have e1:(1+c).toNat=1+c.toNat:=by omega
   by_cases h:1+c.toNat≤(c::l).length
   ·rw[if_neg (by simp at h ⊢;omega),if_pos (by simp at h ⊢;omega)]
    refine Gets.some ?_
    unfold b8v a5d
    rw[if_neg (by simp)]
    dsimp only
    rw[if_neg (by decide),if_pos h,e1]
    dsimp only
    rw[show(1+c)=((1+c.toNat:Nat):Int) by omega]
    rfl
   ·rw[if_pos (by simp at h ⊢;omega)]
    refine Gets.some ?_
    unfold b8v a5d
    rw[if_neg (by simp)]
    dsimp only
    rw[if_neg (by decide),if_neg h]
    exact⟨_,_,rfl⟩
 ·intro J hJ
  dsimp only
  have two:(t=3∨t=4)→Gets (if(decide ((b.length:Int)=0))=true then(some (((t,(0:Int),([]:List Int),()),(0:Int),(UV.node a3p (.pair (.str [110,111,32,98,121,116,101]) (.pair (UV.sent a1w) .unit))),()),())) else(if(decide (t=3))=true then(atI (0:Int) b.length (some (((t,(IntKind.i64.wrap (b.getD (0:Int).toNat (0:Int))),([]:List Int),()),(1:Int),UV.nil,()),()))) else(J (t,(0:Int),([]:List Int),())))) (b8v t b):=by
   intro ht
   cases b with
   |nil =>
    rw[if_pos (by simp)]
    refine Gets.some ?_
    unfold b8v a5d
    rw[if_neg (by omega)]
    exact⟨_,_,rfl⟩
   |cons c l =>
    have hc:=hb c (by simp)
    rw[if_neg (by simp <;> omega)]
    by_cases h3:t=3
    ·rw[if_pos (by simpa using h3)]
     refine Gets.atI (by omega) (by simp) (Gets.some ?_)
     unfold b8v a5d
     rw[if_neg (by omega)]
     dsimp only
     rw[if_pos h3,show(c::l).getD ((0:Int)).toNat (0:Int)=c from rfl,a0j (by omega) (by omega)]
     rfl
    ·rw[if_neg (by simpa using h3)]
     exact hJ _ ⟨rfl,by omega,by simp⟩
  by_cases h3:t=3
  ·rw[if_neg (by simp[h3])]
   exact two (.inl h3)
  ·rw[if_pos (by simp[h3])]
   by_cases h4:t=4
   ·rw[if_neg (by simp[h4])]
    exact two (.inr h4)
   ·rw[if_pos (by simp[h4]),a4e hb hl hn]
    simp only[Option.bind_some]
    have hfv:a5d t b=(match a5a b with|some (u,k)=>some ((t,zag u,[],()),k)|none=>none):=by
     unfold a5d
     rw[if_pos ⟨h3,h4⟩]
     rfl
    unfold b8v
    rw[hfv]
    cases htk:a5a b with
    |none =>
     dsimp only
     rw[if_pos (by simp)]
     exact Gets.some ⟨_,_,rfl⟩
    |some r =>
     obtain⟨u,k⟩:=r
     dsimp only
     rw[if_neg (by simp),b1p (a4q hb htk).1]
     exact Gets.some rfl
theorem e1t{n:Nat}{t:Int}{l:List Vl}(hn:l.length<n)(hc:l.length<1000000):c2f n (t,l,())=some ((a1z t l,()),()):=by
 unfold c2f a1z
 dsimp only
 by_cases h1:t<1
 ·have:¬(1≤t):=by omega
  simp[h1,this]
 by_cases h2:4<t
 ·have:¬(t≤4):=by omega
  simp[h1,h2,this]
 rw[if_neg (by simpa using h1),if_neg (by simpa using h2),b9g l (a0w t) (some ((false,()),())) (some ((true,()),())) hn]
 ·have e1:1≤t:=by omega
  have e2:t≤4:=by omega
  cases l.all (a0w t) <;> simp[e1,e2]
 ·intro rec i hi
  rw[if_pos (by simp <;> omega),a0c hi,Int.toNat_natCast,a0h hi,a2r,a0e (by omega)]
  simp only[Option.bind_some]
  unfold a0w
  by_cases h3:l[i].1=t
  ·cases mayV l[i] <;> simp[h3]
  ·simp[h3]
 ·intro rec
  simp
theorem e0z{n:Nat}{b:List Int}{t:Int}{v:Vl}(h:a0w t v=true)(hv:okV v)(hb:b.length<1000000)(hn:10≤n):b8t n (b,v,())=some ((b++oneV v,()),()):=by
 obtain⟨h1,h2⟩:=a2n h
 have hr:=a2k
 unfold b8t oneV
 dsimp only
 by_cases h3:v.1=3
 ·rw[if_pos (by simpa using h3),if_pos (by simp <;> omega),if_pos h3]
  rw[a8k (by rcases h2 with h2|h2|h2|h2|h2 <;> omega) (by rcases h2 with h2|h2|h2|h2|h2 <;> omega)]
 ·rw[if_neg (by simpa using h3),if_neg h3]
  by_cases h4:v.1=4
  ·have hl:v.2.2.1.length≤20:=by omega
   rw[if_pos (by simpa using h4),if_pos (by simp <;> omega),if_pos (by simp <;> omega),if_pos h4,a8k (by omega) (by omega)]
   simp
  ·have h5:=a5z (b7a hv.2.1.1 hv.2.1.2)
   rw[if_neg (by simpa using h4),if_neg h4,b1n hv.2.1.1 hv.2.1.2]
   simp only[Option.bind_some]
   rw[a6i (b7a hv.2.1.1 hv.2.1.2) hn]
   simp only[Option.bind_some]
   rw[if_pos (by omega)]
def errB(msg:List Int):UV:=UV.node a3v (.pair (.str msg) (.pair (UV.sent a1v) .unit))
def b7y(t:Int)(b:List Int)(y:(Vl×Int×UV×Unit)×Unit):Prop :=
 match a5d t b with
 |some (v,k)=>y=((v,(k:Int),UV.nil,()),())
 |none=>∃v msg,y=((v,(0:Int),errB msg,()),())
theorem c6q{n:Nat}{t:Int}{b:List Int}(hb:a4a b)(hl:b.length<1000000)(hn:11≤n):Gets (b2g n (t,b,())) (b7y t b):=by
 unfold b2g
 refine Gets.join (I:=fun s=>s=(t,(0:Int),([]:List Int),())∧t=4∧b≠[]) ?_ ?_
 ·rintro _ ⟨rfl,rfl,hne⟩
  dsimp only
  cases b with
  |nil=>exact absurd rfl hne
  |cons c l =>
   have hc:=hb c (by simp)
   have e0:(c::l).getD ((0:Int)).toNat (0:Int)=c:=rfl
   refine Gets.atI (by omega) (by simp) ?_
   rw[e0,a0j (x:=c) (by omega) (by omega),a0j (by omega) (by omega)]
   have e1:(1+c).toNat=1+c.toNat:=by omega
   by_cases h:1+c.toNat≤(c::l).length
   ·rw[if_neg (by simp at h ⊢;omega),if_pos (by simp at h ⊢;omega)]
    refine Gets.some ?_
    unfold b7y a5d
    rw[if_neg (by simp)]
    dsimp only
    rw[if_neg (by decide),if_pos h,e1]
    dsimp only
    rw[show(1+c)=((1+c.toNat:Nat):Int) by omega]
    rfl
   ·rw[if_pos (by simp at h ⊢;omega)]
    refine Gets.some ?_
    unfold b7y a5d
    rw[if_neg (by simp)]
    dsimp only
    rw[if_neg (by decide),if_neg h]
    exact⟨_,_,rfl⟩
 ·intro J hJ
  dsimp only
  have two:(t=3∨t=4)→Gets (if(decide ((b.length:Int)=0))=true then(some (((t,(0:Int),([]:List Int),()),(0:Int),(UV.node a3v (.pair (.str [110,111,32,98,121,116,101]) (.pair (UV.sent a1v) .unit))),()),())) else(if(decide (t=3))=true then(atI (0:Int) b.length (some (((t,(IntKind.i64.wrap (b.getD (0:Int).toNat (0:Int))),([]:List Int),()),(1:Int),UV.nil,()),()))) else(J (t,(0:Int),([]:List Int),())))) (b7y t b):=by
   intro ht
   cases b with
   |nil =>
    rw[if_pos (by simp)]
    refine Gets.some ?_
    unfold b7y a5d
    rw[if_neg (by omega)]
    exact⟨_,_,rfl⟩
   |cons c l =>
    have hc:=hb c (by simp)
    rw[if_neg (by simp <;> omega)]
    by_cases h3:t=3
    ·rw[if_pos (by simpa using h3)]
     refine Gets.atI (by omega) (by simp) (Gets.some ?_)
     unfold b7y a5d
     rw[if_neg (by omega)]
     dsimp only
     rw[if_pos h3,show(c::l).getD ((0:Int)).toNat (0:Int)=c from rfl,a0j (by omega) (by omega)]
     rfl
    ·rw[if_neg (by simpa using h3)]
     exact hJ _ ⟨rfl,by omega,by simp⟩
  by_cases h3:t=3
  ·rw[if_neg (by simp[h3])]
   exact two (.inl h3)
  ·rw[if_pos (by simp[h3])]
   by_cases h4:t=4
   ·rw[if_neg (by simp[h4])]
    exact two (.inr h4)
   ·rw[if_pos (by simp[h4]),a4e hb hl hn]
    simp only[Option.bind_some]
    have hfv:a5d t b=(match a5a b with|some (u,k)=>some ((t,zag u,[],()),k)|none=>none):=by
     unfold a5d
     rw[if_pos ⟨h3,h4⟩]
     rfl
    unfold b7y
    rw[hfv]
    cases htk:a5a b with
    |none =>
     dsimp only
     rw[if_pos (by simp)]
     exact Gets.some ⟨_,_,rfl⟩
    |some r =>
     obtain⟨u,k⟩:=r
     dsimp only
     rw[if_neg (by simp),b1p (a4q hb htk).1]
     exact Gets.some rfl
theorem c0y{n:Nat}{t:Int}{l:List Vl}(hv:∀v,v∈l→okV v)(hl:l.length≤1000)(hn:2000≤n) :
  a9b n (t,l,())=some (if a1z t l=true then(l.flatMap oneV,true,()) else([],false,()),()):=by
 have hro:=a2k
 unfold a9b
 dsimp only
 rw[d6h (by omega) (by omega)]
 simp only[Option.bind_some]
 cases h:a1z t l with
 |false=>rfl
 |true =>
  have hb:=a6p h hv
  simp only[Bool.not_true,Bool.false_eq_true,if_false,if_true]
  refine a1n (st:=fun i=>((l.take i).flatMap oneV,(i:Int))) l.length (by simp) ?_ ?_ (by omega)
  ·intro rec i hi
   have h2:=a3o (d:=l.take i) fun v hv=>hb v (List.mem_of_mem_take hv)
   have h3:(l.take i).length≤l.length:=by simp <;> omega
   dsimp only
   rw[if_pos (by simp <;> omega),a0c hi,Int.toNat_natCast,a0h hi,d1i (hb _ (List.getElem_mem hi)).1 (hb _ (List.getElem_mem hi)).2 (by omega) (by omega)]
   simp only[Option.bind_some]
   rw[a0e (by omega),c5t _ hi]
  ·intro rec
   dsimp only
   rw[if_neg (by simp),List.take_length]
theorem c6d{n:Nat}{t:Int}{l:List Vl}(hv:∀v,v∈l→okV v)(hl:l.length≤1000)(hn:2000≤n) :
  b2p n (t,l,())=some (if a1z t l=true then(rleB l,true,()) else([],false,()),()):=by
 have hro:=a2k
 unfold b2p
 dsimp only
 rw[e1t (by omega) (by omega)]
 simp only[Option.bind_some]
 cases h:a1z t l with
 |false=>rfl
 |true =>
  have hb:=a6p h hv
  simp only[Bool.not_true,Bool.false_eq_true,if_false,if_true]
  refine(b9t (I:=fun k (s:List Vl×List Int)=>s.1.length≤k∧k≤1000∧(∀v,v∈s.1→a0w t v=true∧okV v)∧s.2.length+31*k≤40000) (res:=fun s=>some ((s.2++rleB s.1,true,()),())) ?_ n 1000 _ ⟨hl,by omega,hb,by simp⟩ (by omega)).trans (by simp)
  rintro k ⟨r,acc⟩ rec ⟨h1,h2,h3,h4⟩ hrec
  dsimp only at h1 h3 h4 ⊢
  cases r with
  |nil=>rw[if_neg (by simp)];simp[c3e]
  |cons v r =>
   simp only[List.length_cons] at h1
   have hrn:=d3y v r
   rw[if_pos (by simp <;> omega)]
   refine c0g (I:=fun s q=>s=((1+runN v r:Nat):Int)∧q=some ((acc++rleB (v::r),true,()),())) ?_ ?_
   ·rintro _ _ ⟨rfl,rfl⟩
    have hp:=a5z (v:=1+runN v r) (by omega)
    rw[a7a (by omega),a6i (by omega) (by omega)]
    simp only[Option.bind_some]
    have h5:=d5q (h3 v (by simp)).1 (h3 v (by simp)).2
    rw[if_pos (by omega),a2b (by omega) (by simp <;> omega),show(v::r).getD ((0:Int)).toNat ((0:Int),(0:Int),[],())=v from rfl,e0z (h3 v (by simp)).1 (h3 v (by simp)).2 (by simp <;> omega) (by omega)]
    simp only[Option.bind_some]
    rw[if_pos (by simp <;> omega)]
    simp only[Int.toNat_natCast,List.take_length]
    have hd:(v::r).drop (1+runN v r)=r.drop (runN v r):=by rw[Nat.add_comm,List.drop_succ_cons]
    rw[hd,hrec (k - 1) _ (by omega) ⟨by simp <;> omega,by omega,fun x hx=>h3 x (List.mem_cons_of_mem _ (List.mem_of_mem_drop hx)),by simp <;> omega⟩,b3d]
    simp
   ·intro J hJ
    refine a1n (st:=fun i=>((1+i:Nat):Int)) (runN v r) rfl ?_ ?_ (by omega)
    ·intro rec2 i hi
     have hir:i<r.length:=by omega
     have e0:(v::r).getD (((1+i:Nat):Int)).toNat ((0:Int),(0:Int),[],())=v:=by
      rw[Int.toNat_natCast,Nat.add_comm,List.getD_cons_succ]
      exact f6z v hi
     rw[if_pos (by simp <;> omega),a0c (by simp <;> omega),a2b (by omega) (by simp <;> omega),e0,show(v::r).getD ((0:Int)).toNat ((0:Int),(0:Int),[],())=v from rfl,eqVl,if_pos (by simp),a0e (by omega)]
     congr 2
    ·intro rec2
     by_cases hend:runN v r<r.length
     ·have e0:(v::r).getD (((1+runN v r:Nat):Int)).toNat ((0:Int),(0:Int),[],())=r[runN v r]:=by
       rw[Int.toNat_natCast,Nat.add_comm,List.getD_cons_succ,a0h hend]
      rw[if_pos (by simp <;> omega),a0c (by simp <;> omega),a2b (by omega) (by simp <;> omega),e0,show(v::r).getD ((0:Int)).toNat ((0:Int),(0:Int),[],())=v from rfl,eqVl,if_neg (by simpa using f4g v hend)]
      exact hJ _ _ ⟨rfl,rfl⟩
     ·rw[if_neg (by simp <;> omega)]
      exact hJ _ _ ⟨rfl,rfl⟩
theorem c4c{n:Nat}{t:Int}{l:List Vl}(hn:l.length<n)(hc:l.length<1000000):a8p n (t,l,())=some ((decide (t≤3)&&a1z t l,()),()):=by
 unfold a8p a1z
 dsimp only
 by_cases h1:t<1
 ·have:¬(1≤t):=by omega
  simp[h1,this]
 by_cases h2:3<t
 ·have:¬(t≤3):=by omega
  simp[h1,h2,this]
 rw[if_neg (by simpa using h1),if_neg (by simpa using h2),b9g l (a0w t) (some ((false,()),())) (some ((true,()),())) hn]
 ·have e1:1≤t:=by omega
  have e2:t≤4:=by omega
  have e3:t≤3:=by omega
  cases l.all (a0w t) <;> simp[e1,e2,e3]
 ·intro rec i hi
  rw[if_pos (by simp <;> omega),a0c hi,Int.toNat_natCast,a0h hi,a2r,a0e (by omega)]
  simp only[Option.bind_some]
  unfold a0w
  by_cases h3:l[i].1=t
  ·cases mayV l[i] <;> simp[h3]
  ·simp[h3]
 ·intro rec
  simp
theorem e9r{x m:Int}(hx:-9223372036854775808≤x∧x≤9223372036854775807)(hm:-9223372036854775808≤m∧m≤9223372036854775807)(h:m≤x):IntKind.u64.wrap ((IntKind.u64.wrap x) - (IntKind.u64.wrap m))=x - m:=by
 rw[a3c,a3c,a3c]
 omega
theorem c2v{n:Nat}{t:Int}{l:List Vl}(hv:∀v,v∈l→okV v)(hl:l.length≤1000)(hn:2000≤n) :
  b0j n (t,l,())=some (if t≤3∧a1z t l=true then(c0n l,true,()) else([],false,()),()):=by
 have hro:=a2k
 unfold b0j
 dsimp only
 rw[c4c (by omega) (by omega)]
 simp only[Option.bind_some]
 by_cases h:t≤3∧a1z t l=true
 rotate_left
 ·rw[if_neg h,if_pos]
  simp only[Bool.not_eq_true',Bool.and_eq_false_iff,decide_eq_false_iff_not]
  rcases Classical.em (t≤3) with h1|h1
  ·exact .inr (by simpa using fun h2=>h ⟨h1,h2⟩)
  ·exact .inl h1
 rw[if_pos h,if_neg (by simp[h.1,h.2])]
 cases l with
 |nil=>rfl
 |cons v r =>
  obtain⟨l,hlr⟩:∃l,v::r=l:=⟨_,rfl⟩
  have hne:l≠[]:=by rw[←hlr];simp
  have h0:0<l.length:=by rw[←hlr];simp
  have hz:(l.getD ((0:Int)).toNat ((0:Int),(0:Int),[],()))=v:=by rw[←hlr];rfl
  have hL:a6j l=l.foldl (fun m x=>if m≤x.2.1 then m else x.2.1) v.2.1:=by rw[←hlr];rfl
  have hlr2:=b2s hv
  have hw64:=b6j hv
  rw[hlr] at hlr2 hw64 hv hl h ⊢
  rw[if_neg (by simp <;> omega),a2b (by omega) (by omega),hz]
  refine a1n (st:=fun i=>((l.take i).foldl (fun m x=>if m≤x.2.1 then m else x.2.1) v.2.1,(i:Int))) l.length (by simp) ?_ ?_ (by omega)
  ·intro rec i hi
   dsimp only
   rw[if_pos (by simp <;> omega),a0c hi,Int.toNat_natCast,a0h hi,a0e (by omega),List.take_succ_eq_append_getElem hi,List.foldl_append]
   rfl
  ·intro rec
   dsimp only
   rw[if_neg (by simp),List.take_length,←hL]
   refine a1n (st:=fun i=>((l.take i).map (fun v=>v.2.1 - a6j l),(i:Int))) l.length (by simp) ?_ ?_ (by omega)
   ·intro rec2 i hi
    have hm:=List.getElem_mem hi
    dsimp only
    rw[if_pos (by simp <;> omega),a0c hi,Int.toNat_natCast,a0h hi,e9r (hv _ hm).2.1 hlr2 (e5b hm),if_pos (by simp <;> omega),a0e (by omega),map_take _ hi]
   ·intro rec2
    dsimp only
    have habove:(l.take l.length).map (fun v=>v.2.1 - a6j l)=a2w l:=by rw[List.take_length];rfl
    have hnum:Nums (a2w l):=c1c hv
    rw[if_neg (by simp),habove,b3g hnum (by rw[a4v];omega) (by rw[a4v];omega)]
    simp only[Option.bind_some]
    rw[b5z hnum (by rw[a4v];omega) (by omega) (by rw[a4v];omega),if_pos ⟨hw64,Nat.le_refl _⟩]
    simp only[Option.bind_some]
    rw[b1n hlr2.1 hlr2.2]
    simp only[Option.bind_some]
    have hzl:=b7a hlr2.1 hlr2.2
    have hp:=a5z hzl
    rw[a6i hzl (by omega)]
    simp only[Option.bind_some]
    have hmul:l.length*a5j (a2w l)≤l.length*64:=Nat.mul_le_mul_left _ hw64
    rw[if_pos (by simp <;> omega),if_pos (by simp only[List.length_append,List.length_singleton,a6s,a4v];omega),c6o (by omega),b2f hne]
    simp
theorem f1n{last x:Int}(hl:-9223372036854775808≤last∧last≤9223372036854775807):IntKind.i64.wrap (IntKind.u64.wrap ((IntKind.u64.wrap x) - (IntKind.u64.wrap last)))=d4h last x:=by
 unfold d4h
 rw[a3i,a3i,a3c,a3c,a3c]
 omega
theorem e2n{x:Int}(hx:-9223372036854775808≤x∧x≤9223372036854775807):IntKind.i64.wrap (IntKind.u64.wrap x)=x:=by
 rw[a3i,a3c]
 omega
theorem c0s{n:Nat}{t:Int}{l:List Vl}(hv:∀v,v∈l→okV v)(hl:l.length≤1000)(hn:2000≤n) :
  a8y n (t,l,())=some (if t≤2∧a1z t l=true then(a8q 0 l,true,()) else([],false,()),()):=by
 have hro:=a2k
 have hR:t=1∨t=2→(a1z t l=l.all (a0w t)):=by
  intro h
  unfold a1z
  have e1:1≤t:=by omega
  have e2:t≤4:=by omega
  simp[e1,e2]
 have hmain:t=1∨t=2→a0x (fun rec4 (s3:List Int×Int×Int)=>(if(decide (s3.2.2<(l.length:Int)))=true then(atI s3.2.2 l.length (if(!decide ((l.getD s3.2.2.toNat ((0:Int),(0:Int),[],())).1=t))=true then(some (([],false,()),())) else((a1f n ((l.getD s3.2.2.toNat ((0:Int),(0:Int),[],())),())).bind fun y5=>(if(!y5.1.1)=true then(some (([],false,()),())) else((a5e n ((IntKind.i64.wrap (IntKind.u64.wrap ((IntKind.u64.wrap (((l.getD s3.2.2.toNat ((0:Int),(0:Int),[],())).2).1)) - s3.2.1))),())).bind fun y6=>((a2o n (y6.1.1,())).bind fun y7=>(if(s3.1.length+y7.1.1.length)*1≤room then(rec4 ((s3.1++y7.1.1),(IntKind.u64.wrap (((l.getD s3.2.2.toNat ((0:Int),(0:Int),[],())).2).1)),(IntKind.i64.wrap (s3.2.2+1)))) else none))))))) else(some ((s3.1,true,()),())))) n ([],(0:Int),(0:Int))=some (if t≤2∧a1z t l=true then(a8q 0 l,true,()) else([],false,()),()):=by
  intro ht
  refine(b9t (I:=fun k (s:List Int×Int×Int)=>∃(i:Nat) (last:Int),s.2=(IntKind.u64.wrap last,(i:Int))∧i+k=l.length∧(-9223372036854775808≤last∧last≤9223372036854775807)∧s.1.length+10*k≤20000)
   (res:=fun s=>some (if(l.drop s.2.2.toNat).all (a0w t)=true then(s.1++a8q (IntKind.i64.wrap s.2.1) (l.drop s.2.2.toNat),true,()) else([],false,()),())) ?_ n l.length _ ⟨0,0,rfl,by omega,by omega,by simp <;> omega⟩ (by omega)).trans ?_
  ·rintro k ⟨acc,q⟩ rec ⟨i,last,rfl,h1,h2,h3⟩ hrec
   dsimp only at h3 ⊢
   rw[e2n h2,Int.toNat_natCast]
   cases k with
   |zero =>
    rw[if_neg (by simp <;> omega),List.drop_eq_nil_iff.2 (by omega)]
    simp[a8q]
   |succ k =>
    have hi:i<l.length:=by omega
    have hm:=List.getElem_mem hi
    rw[if_pos (by simp <;> omega),a0c hi,a0h hi,List.drop_eq_getElem_cons hi,List.all_cons]
    by_cases h4:l[i].1=t
    rotate_left
    ·rw[if_pos (by simpa using h4)]
     have:a0w t l[i]=false:=by unfold a0w;simp[h4]
     rw[this];simp
    rw[if_neg (by simpa using h4),a2r]
    simp only[Option.bind_some]
    cases h5:mayV l[i] with
    |false =>
     have:a0w t l[i]=false:=by unfold a0w;simp[h5]
     rw[if_pos (by simp),this];simp
    |true =>
     have h6:a0w t l[i]=true:=by unfold a0w;simp[h4,h5]
     have h7:=c1i last l[i].2.1
     have h8:=a5z (b2h last l[i].2.1)
     rw[if_neg (by simp),f1n h2,b1n h7.1 h7.2]
     simp only[Option.bind_some]
     rw[a6i (b2h last l[i].2.1) (by omega)]
     simp only[Option.bind_some]
     rw[if_pos (by omega),a0e (by omega),hrec k _ (by omega) ⟨i+1,l[i].2.1,rfl,by omega,(hv _ hm).2.1,by simp <;> omega⟩,h6]
     dsimp only
     rw[e2n (hv _ hm).2.1,Int.toNat_natCast]
     simp only[Bool.true_and,a8q,List.append_assoc]
  ·dsimp only
   rw[hR ht,show IntKind.i64.wrap 0=0 by decide]
   have e2:t≤2:=by omega
   rw[show Int.toNat 0=0 from rfl,List.drop_zero]
   by_cases hh:l.all (a0w t)=true
   ·rw[if_pos hh,if_pos ⟨e2,hh⟩];rfl
   ·rw[if_neg hh,if_neg fun h=>hh h.2]
 unfold a8y b3q
 dsimp only
 by_cases h1:t=1
 ·rw[if_neg (by simpa using h1)]
  exact hmain (.inl h1)
 ·rw[if_pos (by simpa using h1)]
  by_cases h2:t=2
  ·rw[if_neg (by simpa using h2)]
   exact hmain (.inr h2)
  ·rw[if_pos (by simpa using h2),if_neg]
   rintro⟨h3,h4⟩
   have:=(a5c h4).1
   omega
end Go.Rb.R5

namespace Go.Rb.R5
open Go.Rb
def isT(t:Int):Bool:=decide (1≤t)&&decide (t≤4)
theorem f0m{t:Int}:isT t=true↔1≤t∧t≤4:=by simp[isT]
theorem c3y(n:Nat)(t:Int):a6m n (t,())=some ((isT t,()),()):=by
 unfold a6m isT
 dsimp only
 by_cases h:1≤t <;> simp[h]
theorem e9p(n:Nat)(v:Vl):b5g n (v,())=some ((mayV v,()),()):=by
 obtain⟨a,b,c,u⟩:=v
 unfold b5g mayV
 dsimp only
 by_cases h1:a=1
 ·subst h1
  by_cases h2:-32768≤b
  ·by_cases h3:b≤32767 <;> simp[h2,h3]
  ·simp[h2]
 ·by_cases h2:a=2
  ·subst h2;simp
  ·by_cases h3:a=0
   ·subst h3
    by_cases h4:b=0 <;> simp[h4]
   ·by_cases h4:a=3
    ·subst h4
     by_cases h5:b=0
     ·simp[h5]
     ·by_cases h6:b=1 <;> simp[h5,h6]
    ·by_cases h5:a=4
     ·subst h5
      by_cases h6:b=0
      ·have:((c.length:Int)≤20)↔c.length≤20:=by omega
       simp[h6,this]
      ·simp[h6]
     ·simp[h1,h2,h3,h4,h5]
end Go.Rb.R5

namespace Go.Rb.R5
open Go.Rb
theorem e3w(n:Nat)(t:Int)(v:Vl):b0m n (t,v,())=some ((mayV v&&(isT t&&(decide (v.1=0)||decide (v.1=t))),()),()):=by
 unfold b0m
 dsimp only
 rw[e9p,c3y]
 simp only[Option.bind_some]
 cases mayV v <;> cases isT t <;> by_cases h:v.1=0 <;> simp[h]
end Go.Rb.R5

namespace Go.Rb.R5
open Go.Rb
theorem b6s{n:Nat}{l:List Vl}{p:Vl→Option Bool}{q:Vl→Bool}(hp:∀v,v∈l→p v=some (q v))(hl:l.length<100000)(hn:l.length<n) :
  Gets (a0p n (l,p,())) fun y=>(y=(((-1:Int),()),())∧∀v,v∈l→q v=false)∨∃i,∃(hi:i<l.length),y=(((i:Int),()),())∧q l[i]=true∧∀v,v∈l.take i→q v=false:=by
 unfold a0p
 dsimp only
 refine Gets.iter (I:=fun s:Int=>∃i:Nat,s=(i:Int)∧i≤l.length∧∀v,v∈l.take i→q v=false) (μ:=fun s=>l.length - s.toNat) ⟨0,rfl,by omega,by simp⟩ (by simp <;> omega) ?_
 rintro rec _ ⟨i,rfl,hi,hq⟩ hrec
 by_cases h:i<l.length
 ·rw[if_pos (by simp <;> omega),a0c h,Int.toNat_natCast,a0h h,hp _ (List.getElem_mem h)]
  simp only[Option.bind_some]
  by_cases hqi:q l[i]=true
  ·rw[if_pos hqi]
   exact Gets.some (.inr ⟨i,h,rfl,hqi,hq⟩)
  ·rw[if_neg hqi,a0e (by omega)]
   refine hrec _ ⟨i+1,rfl,by omega,fun v hv=>?_⟩ (by simp <;> omega)
   rw[List.take_succ_eq_append_getElem h] at hv
   rcases List.mem_append.1 hv with hv|hv
   ·exact hq v hv
   ·simp at hv;subst hv;simpa using hqi
 ·rw[if_neg (by simp <;> omega)]
  refine Gets.some (.inl ⟨rfl,fun v hv=>hq v ?_⟩)
  rwa [List.take_of_length_le (by omega)]
theorem b0h{n:Nat}{l:List Vl}{p:Vl→Option Bool}{q:Vl→Bool}(hp:∀v,v∈l→p v=some (q v))(hl:l.length<100000)(hn:l.length<n) :
  a0f n (l,p,())=some ((l.any q,()),()):=by
 obtain⟨y,h1,h2⟩:=b6s hp hl hn
 unfold a0f
 dsimp only
 rw[h1]
 simp only[Option.bind_some]
 rcases h2 with⟨rfl,h⟩|⟨i,hi,rfl,h,_⟩
 ·have:l.any q=false:=by rw[List.any_eq_false];intro x hx;simp[h x hx]
  rw[this];rfl
 ·have:l.any q=true:=List.any_eq_true.2 ⟨_,List.getElem_mem hi,h⟩
  rw[this]
  simp
theorem b7v{n:Nat}{l:List Vl}{p:Vl→Option Bool}{q:Vl→Bool}(hp:∀v,v∈l→p v=some (q v))(hl:l.length<100000)(hn:l.length<n) :
  a0o n (l,p,())=some ((l.filter (fun v=>!q v),()),()):=by
 obtain⟨y,h1,h2⟩:=b6s hp hl hn
 refine gets_eq' ?_
 unfold a0o
 dsimp only
 rw[h1]
 simp only[Option.bind_some]
 rcases h2 with⟨rfl,h⟩|⟨i,hi,rfl,h,hno⟩
 ·rw[if_pos (by simp)]
  have:l.filter (fun v=>!q v)=l:=List.filter_eq_self.2 fun x hx=>by simp[h x hx]
  rw[this]
  exact Gets.some rfl
 ·rw[if_neg (by simp <;> omega),a0e (by omega)]
  refine Gets.iter (I:=fun s:List Vl×Int×Int=>∃(m:List Vl) (i j:Nat),s=(m,(i:Int),(j:Int))∧m.length=l.length∧i<j∧j≤l.length∧m.take i=(l.take j).filter (fun v=>!q v)∧m.drop j=l.drop j)
   (μ:=fun s=>l.length - s.2.2.toNat) ⟨l,i,i+1,rfl,rfl,by omega,by omega,?_,rfl⟩ (by simp <;> omega) ?_
  ·rw[List.take_succ_eq_append_getElem hi,List.filter_append]
   have e1:(l.take i).filter (fun v=>!q v)=l.take i:=List.filter_eq_self.2 fun x hx=>by simp[hno x hx]
   rw[e1];simp[h]
  ·rintro rec _ ⟨m,i,j,rfl,g1,g2,g3,g4,g5⟩ hrec
   dsimp only
   by_cases hj:j<l.length
   ·have hjm:j<m.length:=by omega
    have hmj:m[j]=l[j]:=by
     have e1:=List.drop_eq_getElem_cons hjm
     have e2:=List.drop_eq_getElem_cons hj
     rw[g5,e2] at e1
     exact(List.cons.inj e1).1.symm
    have hd1:m.drop (j+1)=l.drop (j+1):=by
     have:=congrArg List.tail g5
     simpa using this
    rw[if_pos (by simp <;> omega),a0c hjm,Int.toNat_natCast,a0h hjm,hmj,hp _ (List.getElem_mem hj)]
    simp only[Option.bind_some]
    rw[a0e (i:=j) (by omega)]
    by_cases hq:q l[j]=true
    ·rw[if_neg (by simp[hq])]
     refine hrec _ ⟨m,i,j+1,rfl,g1,by omega,by omega,?_,hd1⟩ (by simp <;> omega)
     rw[g4,List.take_succ_eq_append_getElem hj,List.filter_append]
     simp[hq]
    ·rw[if_pos (by simpa using hq),a0c (by omega),Int.toNat_natCast,a0e (i:=i) (by omega)]
     refine hrec _ ⟨m.set i l[j],i+1,j+1,rfl,by simpa using g1,by omega,by omega,?_,?_⟩ (by simp <;> omega)
     ·rw[List.take_succ_eq_append_getElem (by simp <;> omega),List.getElem_set_self,List.take_set_of_le (Nat.le_refl _),g4,List.take_succ_eq_append_getElem hj,List.filter_append]
      have:q l[j]=false:=by simpa using hq
      simp[this]
     ·rw[List.drop_set_of_lt (by omega)];exact hd1
   ·obtain rfl:j=l.length:=by omega
    have hlm:(m.take i).length=i:=by simp <;> omega
    rw[if_neg (by simp <;> omega),if_pos (by omega),if_pos (by omega)]
    simp only[Int.toNat_natCast]
    rw[if_pos (by simp <;> omega)]
    refine Gets.some ?_
    rw[List.take_left' hlm,g4,List.take_length]
 where
 gets_eq' {R:Type} {o:Option R} {r:R} (h:Gets o fun y=>y=r):o=some r:=by
  obtain⟨y,h1,rfl⟩:=h
  exact h1
set_option maxRecDepth 100000 in
theorem e3v:∀m:Fin 1001,a4m 0 ((1:Int),((m.1:Nat):Int),())=some (((0:Int),((m.1:Nat):Int),()),()):=by decide +kernel
theorem e4p{n m:Nat}{v:Vl}(hm:m≤1000)(hn:1001<n):a0v n ([v],(m:Int),())=some ((List.replicate m v,()),()):=by
 have hro:=a2k
 have hmul:a6a n ((IntKind.u64.wrap (([v]:List Vl).length:Int)),(IntKind.u64.wrap (m:Int)),())=some (((0:Int),(m:Int),()),()):=by
  have h1:=e3v ⟨m,by omega⟩
  unfold a6a
  rw[a7a (x:=m) (by omega),show IntKind.u64.wrap (([v]:List Vl).length:Int)=1 by rfl]
  have h2:a4m n ((1:Int),(m:Int),())=a4m 0 ((1:Int),(m:Int),()):=rfl
  dsimp only
  rw[h2,h1]
  rfl
 unfold a0v
 dsimp only
 rw[if_neg (by simp <;> omega),hmul]
 simp only[Option.bind_some]
 rw[if_neg (by simp),if_neg (by simp <;> omega),a2a (by omega),if_pos (by omega)]
 simp only[Int.toNat_natCast,List.length_replicate]
 rw[if_pos (by omega)]
 refine iter_done (I:=fun k (s:List Vl×Int)=>∃i:Nat,s=(List.replicate i v++List.replicate (m - i) d0,(i:Int))∧i≤m∧m - i≤k∧(0<m→0<i)) (r:=some ((List.replicate m v,()),())) ?_ n 1000 _ ?_ (by omega)
 ·rintro k _ rec ⟨i,rfl,h1,h2,h3⟩ hrec
  dsimp only
  have hlen:(List.replicate i v++List.replicate (m - i) d0).length=m:=by simp <;> omega
  by_cases hi:i<m
  ·rw[if_pos (by rw[hlen];simp <;> omega),if_pos (by rw[hlen];omega),if_pos (by rw[hlen];omega),if_pos (by rw[hlen];omega),hlen]
   simp only[Int.toNat_natCast]
   have e1:(List.replicate i v++List.replicate (m - i) d0).take i=List.replicate i v:=List.take_left' (by simp)
   have e0:((0:Int)).toNat=0:=rfl
   rw[e1,e0,List.drop_zero,List.length_replicate,a0j (by omega) (by omega)]
   refine hrec (m - (i+min (m - i) i)) _ (by omega) ⟨i+min (m - i) i,?_,by omega,by omega,by omega⟩
   have e2:(List.replicate i v).take (m - i)=List.replicate (min (m - i) i) v:=List.take_replicate
   have e3:(List.replicate i v++List.replicate (m - i) d0).drop (i+min (m - i) i)=List.replicate (m - (i+min (m - i) i)) d0:=by
    rw[←List.drop_drop,List.drop_left' (by simp),List.drop_replicate]
    congr 1;omega
   rw[e2,e3,←List.append_assoc,List.replicate_append_replicate]
   congr 1
  ·obtain rfl:i=m:=by omega
   rw[if_neg (by rw[hlen];simp)]
   simp
 ·refine⟨min m 1,?_,by omega,by omega,by omega⟩
  have e0:((0:Int)).toNat=0:=rfl
  simp only[e0,List.take_zero,List.nil_append,Nat.sub_zero,List.length_singleton,Nat.zero_add,List.drop_replicate]
  cases m with
  |zero=>rfl
  |succ m=>simp[List.replicate_succ]
 where
 iter_done {σ R:Type} {f:(σ→Option R)→σ→Option R} {r:Option R} (I:Nat→σ→Prop) (h:∀k s rec,I k s→(∀j s',j<k→I j s'→rec s'=r)→f rec s=r) (n k:Nat) (s:σ) (hi:I k s) (hk:k<n):a0x f n s=r :=
  b9t I (fun _=>r) h n k s hi hk
theorem e4v{l:List Bool}{i:Nat}(hi:i<l.length):bitL (l.map b2i) 1 i=if l[i]=true then 1 else 0:=by
 unfold bitL
 rw[Nat.div_one,Nat.mod_one,a0h (by simpa using hi),List.getElem_map]
 cases l[i] <;> rfl
theorem c0p{n:Nat}{l:List Bool}(hl:l.length<100000)(hn:l.length<n):a7t n (l,())=some ((b7g l,()),()):=by
 have hro:=a2k
 have hb:=b7r (l.map b2i) 1
 unfold a7t
 dsimp only
 rw[show((l.length:Int)+7)=((l.length+7:Nat):Int) by omega,a2a (by omega),show((8:Int))=((8:Nat):Int) from rfl,b2b,a2a (by omega),if_pos (by refine⟨by omega,by omega,?_⟩;omega)]
 refine a1n (st:=fun i=>(a7b (bitL (l.map b2i) 1) ((l.length+7) / 8) i,(i:Int))) l.length (by rw[c5z,Int.toNat_natCast];rfl) ?_ ?_ hn
 ·intro rec i hi
  dsimp only
  have hlt:i / 8<(l.length+7) / 8:=by omega
  have hbit:=e4v hi
  have hstep:=c5y (bit:=bitL (l.map b2i) 1) hlt
  have hsm:=c5q hb i
  rw[if_pos (by simp <;> omega),a0c hi,Int.toNat_natCast,a0h hi,show((i:Int)).tdiv (((8:Nat):Int))=((i / 8:Nat):Int) from b2b i 8,show((i:Int)).tmod (((8:Nat):Int))=((i % 8:Nat):Int) from c1y i 8,a2a (x:=i / 8) (by omega),a0e (by omega)]
  by_cases hx:l[i]=true
  ·rw[if_pos hx] at hbit ⊢
   have hp8:2 ^ (i % 8)≤2 ^ 7:=Nat.pow_le_pow_right (by omega) (by omega)
   have h4:=d5u 1 (i % 8) 8 (by omega)
   rw[Int.toNat_natCast] at h4
   rw[a0c (by rw[b0r];exact hlt),if_neg (by omega),a0c (by rw[b0r];exact hlt)]
   simp only[Int.toNat_natCast]
   rw[b5q hlt,show IntKind.u8.bits=8 from rfl,show((1:Int))=((1:Nat):Int) from rfl,h4,c6o (by omega),d5b (c8b hb _ _) (by omega),e5j hsm,←hstep,hbit]
  ·rw[if_neg hx] at hbit ⊢
   rw[←hstep,hbit,Nat.zero_mul,Nat.add_zero]
   congr 2
   refine(List.ext_getElem (by simp) fun j h1 h2=>?_)
   rw[List.getElem_set]
   split
   ·rename_i hj
    subst hj
    have:=b5q (bit:=bitL (l.map b2i) 1) (p:=i) hlt
    rw[a0h (by rw[b0r];exact hlt)] at this
    exact this
   ·rfl
 ·intro rec
  dsimp only
  rw[if_neg (by simp)]
  unfold b7g b1k
  simp
def b7e(b:List Int)(m:Nat):List Bool:=(List.range m).map fun i=>decide (bitB b i=1)
theorem b2r(b:List Int)(m:Nat):(b7e b m).length=m:=by simp[b7e]
theorem e8a(l:List Bool):b7e (b7g l) l.length=l:=by
 refine List.ext_getElem (by simp[b7e]) fun i h1 h2=>?_
 simp only[b7e,List.getElem_map,List.getElem_range]
 have h3:bitB (b7g l) i=bitL (l.map b2i) 1 i:=by
  unfold b7g b1k
  refine c6k (b7r _ _) (by simp <;> omega) (by simp <;> omega)
 rw[h3,e4v h2]
 cases l[i] <;> rfl
def c3c(b:List Int)(m:Int):List Bool×Bool×Unit :=
 if 0≤m∧m≤1000∧b.length=(m.toNat+7) / 8∧b7g (b7e b m.toNat)=b then(b7e b m.toNat,true,()) else([],false,())
theorem c8h{n:Nat}{b:List Int}{m:Int}(hb:a4a b)(hl:b.length<1000000)(hn:2000<n):b0y n (b,m,())=some (c3c b m,()):=by
 have hro:=a2k
 have fail:∀msg:List Int,((some ((([]:List Bool),(UV.node a6g (.pair (.str msg) (.pair (UV.sent a2p) .unit))),()),()):Option ((List Bool×UV×Unit)×Unit)).bind fun y1=>((a0y n (y1.1.2.1,(UV.sent a2p),())).bind fun y2=>(some ((y1.1.1,(!y2.1.1),()),()))))=some (([],false,()),()):=fun msg=>rfl
 unfold b0y b4b c3c
 dsimp only
 by_cases h1:m<0
 ·rw[if_pos (by simpa using h1),if_neg (by omega)];exact fail _
 rw[if_neg (by simpa using h1)]
 by_cases h2:1000<m
 ·rw[if_pos (by simpa using h2),if_neg (by omega)];exact fail _
 rw[if_neg (by simpa using h2)]
 obtain⟨M,rfl⟩:∃M:Nat,m=(M:Int):=⟨_,(Int.toNat_of_nonneg (by omega)).symm⟩
 simp only[Int.toNat_natCast]
 rw[show((M:Int)+7)=((M+7:Nat):Int) by omega,a2a (by omega),show((8:Int))=((8:Nat):Int) from rfl,b2b,a2a (by omega)]
 by_cases h3:b.length=(M+7) / 8
 rotate_left
 ·rw[if_pos (by simp <;> omega),if_neg (by omega)];exact fail _
 rw[if_neg (by simp <;> omega),if_pos (by omega)]
 simp only[List.length_replicate]
 have hloop:=a1n (R:=(List Bool×UV×Unit)×Unit) (st:=fun i=>((b7e b M).take i++List.replicate (M - i) false,(i:Int))) (s0:=(List.replicate M false,(0:Int))) M (by simp)
  (f:=fun rec2 (s1:List Bool×Int)=>(if(decide (s1.2<(M:Int)))=true then(atI (IntKind.i64.wrap (s1.2.tdiv ((8:Nat):Int))) b.length (if(s1.2.tmod ((8:Nat):Int))<0 then none else(atI s1.2 s1.1.length (rec2 ((s1.1.set s1.2.toNat (decide ((bits .and .u8 ((b.getD (IntKind.i64.wrap (s1.2.tdiv ((8:Nat):Int))).toNat (0:Int)).fdiv (2 ^ min (s1.2.tmod ((8:Nat):Int)).toNat IntKind.u8.bits)) (1:Int))=(1:Int)))),(IntKind.i64.wrap (s1.2+1))))))) else((a7t n (s1.1,())).bind fun y3=>((a0d n (y3.1.1,b,())).bind fun y4=>(if(!y4.1.1)=true then(some (([],(UV.node a6g (.pair (.str [98,101,104,105,110,100,32,116,104,101,32,108,97,115,116]) (.pair (UV.sent a2p) .unit))),()),())) else(some ((s1.1,UV.nil,()),())))))))
  (r:=if b7g (b7e b M)=b then some ((b7e b M,UV.nil,()),()) else some (([],(UV.node a6g (.pair (.str [98,101,104,105,110,100,32,116,104,101,32,108,97,115,116]) (.pair (UV.sent a2p) .unit))),()),())) ?_ ?_ (n:=n) (by omega)
 ·rw[hloop]
  by_cases h4:b7g (b7e b M)=b
  ·rw[if_pos h4,if_pos ⟨by omega,by omega,h3,h4⟩]
   rfl
  ·rw[if_neg h4,if_neg (fun h=>h4 h.2.2.2)]
   exact fail _
 ·intro rec i hi
  dsimp only
  obtain⟨c,hc1,hc2,hc3⟩:=hb.get (i:=i / 8) (by omega)
  have hset:((b7e b M).take i++List.replicate (M - i) false).set i (decide (bitB b i=1))=(b7e b M).take (i+1)++List.replicate (M - (i+1)) false:=by
   have hti:((b7e b M).take i).length=i:=by rw[List.length_take,b2r];omega
   have h0:List.set ((b7e b M).take i++List.replicate (M - i) false) i (decide (bitB b i=1))=(b7e b M).take i++(List.replicate (M - i) false).set 0 (decide (bitB b i=1)):=by
    rw[List.set_append_right _ _ (by omega),hti,Nat.sub_self]
   rw[h0,List.take_succ_eq_append_getElem (by rw[b2r];exact hi),show M - i=(M - (i+1))+1 by omega,List.replicate_succ,List.set_cons_zero]
   simp[b7e]
  have hbit:bitB b i=c / 2 ^ (i % 8) % 2:=by
   unfold bitB
   rw[hc1,Int.toNat_natCast]
  have h6:=f8x c (i % 8) (by omega)
  rw[Int.toNat_natCast] at h6
  have h7:bits .and .u8 ((c / 2 ^ (i % 8):Nat):Int) (1:Int)=((c / 2 ^ (i % 8) % 2:Nat):Int):=by
   have hq:c / 2 ^ (i % 8)≤c:=Nat.div_le_self _ _
   have:=c2b (x:=c / 2 ^ (i % 8)) (y:=1) (by omega) (by omega)
   rw[Nat.and_one_is_mod] at this
   exact this
  have hdec:decide (((c / 2 ^ (i % 8) % 2:Nat):Int)=1)=decide (bitB b i=1):=by
   rw[hbit]
   by_cases h:c / 2 ^ (i % 8) % 2=1
   ·simp[h]
   ·have:¬(((c / 2 ^ (i % 8) % 2:Nat):Int)=1):=by omega
    simp only[h,this,decide_false]
  rw[if_pos (by simp <;> omega),show((i:Int)).tdiv (((8:Nat):Int))=((i / 8:Nat):Int) from b2b i 8,show((i:Int)).tmod (((8:Nat):Int))=((i % 8:Nat):Int) from c1y i 8,a2a (x:=i / 8) (by omega),a0c (by omega),if_neg (by omega),
   a0c (by simp only[List.length_append,List.length_take,b2r,List.length_replicate];omega),a0e (by omega)]
  simp only[Int.toNat_natCast]
  simp only[hc1,h6,h7]
  rw[hdec,hset]
 ·intro rec
  dsimp only
  rw[if_neg (by simp),Nat.sub_self,List.replicate_zero,List.append_nil,List.take_of_length_le (by rw[b2r];omega),c0p (by rw[b2r];omega) (by rw[b2r];omega)]
  simp only[Option.bind_some,a0d]
  by_cases h4:b7g (b7e b M)=b
  ·rw[if_pos h4,if_neg (by simp[h4])]
  ·rw[if_neg h4,if_pos (by simp[h4])]
theorem c6x{n:Nat}{l:List Bool}(hl:l.length<100000)(hn:l.length<n):a9s n (l,())=some ((((l.countP (fun b=>b):Nat):Int),()),()):=by
 unfold a9s
 dsimp only
 refine a1n (st:=fun i=>((((l.take i).countP (fun b=>b):Nat):Int),(i:Int))) l.length (by simp) ?_ ?_ hn
 ·intro rec i hi
  have hc:=List.countP_le_length (p:=fun b:Bool=>b) (l:=l.take i)
  have hti:(l.take i).length≤l.length:=by simp <;> omega
  have hsuc:(l.take (i+1)).countP (fun b=>b)=(l.take i).countP (fun b=>b)+(if l[i]=true then 1 else 0):=by
   rw[List.take_succ_eq_append_getElem hi,List.countP_append,List.countP_singleton]
  dsimp only
  rw[if_pos (by simp <;> omega),a0c hi,Int.toNat_natCast,a0h hi,a0e (i:=i) (by omega),hsuc]
  by_cases hx:l[i]=true
  ·rw[if_pos hx,if_pos hx,a0e (by omega)]
  ·rw[if_neg hx,if_neg hx]
   simp only[Nat.add_zero]
 ·intro rec
  dsimp only
  rw[if_neg (by simp),List.take_length]
end Go.Rb.R5
