/- Plain law: numbers of few bytes, as the program has them. Own work. -/
import Derived.Test.YthkgkalebkbndaaGreatDoorLawB
import Derived.Test.YthkgkalebkbndaaGreatDoorRbJ
set_option autoImplicit false
set_option linter.unusedVariables false
set_option linter.unusedSimpArgs false
open Go.IntKind renaming i64->Aa,u64->Au,u8->A6
open Int renaming toNat_natCast->Ah,toNat_of_nonneg->B4,toNat_zero->Cu
open List renaming append_assoc->Ae,drop_left->FO,drop_length->BL,flatMap_append->EQ,flatMap_cons->D0,getElem_mem->A1,length_append->Ac,length_cons->Bd,length_drop->B8,length_nil->A0,length_singleton->Av,length_take->A7,mem_append->Aq,mem_cons->A3,mem_singleton->BS,nil_append->B5,not_mem_nil->Bo,take_append_drop->Bw,take_length->AL
open Nat renaming le_trans->AM,mod_eq_of_lt->Ed,mul_le_mul->Ez,mul_le_mul_right->Ai,pow_le_pow_right->C1,zero_le->A8
open Option renaming bind_some->Ab
namespace Go.Rb.R7
open Go.Rb
theorem a4t:room=140737488355328:=rfl
def a1v(b:List Int):Prop:=∀x,x∈b→0≤x∧x≤255
theorem a1v.get{b:List Int}(h:a1v b){i:Nat}(hi:i<b.length):∃c:Nat,b.getD i 0=(c:Int)∧c<256∧b[i]=(c:Int):=by
 have:=h _ (A1 hi);exact⟨b[i].toNat,by rw[a8y hi];omega,by omega,by omega⟩
theorem c4z{n v:Nat}(hv:v<18446744073709551616)(hn:10≤n):b8p n ((v:Int),())=some ((putN v,()),()):=by
 unfold b8p;refine(e1v (I:=fun k (s:Int×List Int)=>∃v:Nat,s.1=(v:Int)∧v<128 ^ (k+1)∧v<18446744073709551616∧s.2.length+k≤1000)
  (res:=fun s=>some ((s.2++putN s.1.toNat,()),())) ?_ n 9 _ ⟨v,rfl,by omega,hv,by simp⟩ (by omega)).trans (by simp)
 rintro k ⟨a,acc⟩ rec ⟨v,rfl,h1,h2,h3⟩ hrec;dsimp only at h3;have hr:=a4t;have hm:A6.wrap (v:Int)=((v % 256:Nat):Int):=by rw[c7n];omega
 dsimp only;by_cases h:v<128
 ·rw[if_neg (by simp;omega),if_pos (by simp;omega)];rw[Ah,b3b h,hm,Ed (by omega)]
 ·obtain⟨k,rfl⟩:∃k',k=k'+1:=⟨k - 1,by
   rcases Nat.eq_zero_or_pos k with h0|h0
   ·subst h0;omega
   ·omega⟩
  rw[if_pos (by simp;omega),if_pos (by simp;omega)];have e1:bits .or .u8 (A6.wrap (v:Int)) 128=((v % 128+128:Nat):Int):=by
   rw[hm,show(128:Int)=((128:Nat):Int) from rfl,f5t (by omega) (by omega),g4n (by omega)];congr 1;omega
  have e2:=f8w v 7 (by omega);rw[e1,show((7:Int))=((7:Nat):Int) from rfl,e2];rw[hrec k _ (by omega) ⟨v / 2 ^ 7,rfl,by rw[Nat.pow_succ] at h1;omega,by omega,by simp;omega⟩];simp only[Ah];rw[c2y (v:=v) (by omega)];simp
theorem c4t{v:Int}(h1:-9223372036854775808≤v)(h2:v≤9223372036854775807)(n:Nat):b7z n (v,())=some ((((zig v:Nat):Int),()),()):=by
 unfold b7z;dsimp only;rw[f2y h1 h2]
theorem c4x{u:Nat}(h:u<18446744073709551616)(n:Nat):c1t n ((u:Int),())=some ((zag u,()),()):=by
 unfold c1t;dsimp only;rw[f3g h]
def d4i(b:List Int)(y:(Int×Int×UV×Unit)×Unit):Prop :=
 match b3n b with
 |some (v,k)=>y=(((v:Int),(k:Int),UV.nil,()),())
 |none=>∃g,(g=b1f∨g=a4k)∧y=(((0:Int),(0:Int),UV.node a8s (.pair (.str [98,121,116,101]) (.pair (UV.sent g) .unit)),()),())
theorem f6c{V c i:Nat}(hV:V<2 ^ (7*i))(hi:i≤9)(hc:c % 128*2 ^ (7*i)<18446744073709551616)(hc8:c<256) :
  bits .or .u64 (V:Int) (Au.wrap ((Au.wrap (bits .and .u8 (c:Int) (127:Int)))*2 ^ min (Aa.wrap ((7:Int)*(i:Int))).toNat Au.bits))=((V+c % 128*2 ^ (7*i):Nat):Int):=by
 have e1:bits .and .u8 (c:Int) (127:Int)=((c % 128:Nat):Int):=by
  have:=d6c hc8 (show 127<256 by omega);rw[g2o hc8] at this;exact this
 have e2:Aa.wrap ((7:Int)*(i:Int))=((7*i:Nat):Int):=by
  rw[a0i (by omega) (by omega)];push_cast;rfl
 have hp:2 ^ (7*i)≤2 ^ 63:=C1 (by omega) (by omega);rw[e1,e2,c3b (x:=c % 128) (by omega),f7o _ (7*i) Au.bits (show 7*i≤64 by omega),c3b hc,d7v (by omega) hc,g0m hV]
theorem c8p{n:Nat}{b:List Int}(hb:a1v b)(hl:b.length<1000000)(hn:11≤n):Gets (b9c n (b,())) (d4i b):=by
 unfold b9c;dsimp only;refine Gets.iter (I:=fun s:Int×Int=>∃V i:Nat,s=((V:Int),(i:Int))∧i≤10∧i≤b.length∧b3n b=d7z i V (b3n (b.drop i))∧(i≤9→V<2 ^ (7*i))∧V<18446744073709551616) (μ:=fun s=>10 - s.2.toNat)
  ⟨0,0,rfl,by omega,by omega,by rw[List.drop_zero,e5x hb],by simp,by omega⟩ (by simp;omega) ?_
 rintro rec _ ⟨V,i,rfl,hi,hil,hT,hV,hV2⟩ hrec;dsimp only;rcases Nat.lt_or_ge i 10 with h10|h10
 rotate_left
 ·obtain rfl:i=10:=by omega
  rw[if_neg (by simp)];rw[c8c] at hT;refine Gets.some ?_;unfold d4i;rw[hT];exact⟨_,.inr rfl,rfl⟩
 rw[if_pos (by simp;omega)];by_cases hend:i=b.length
 ·rw[if_pos (by simp;omega)];refine Gets.some ?_;rw[hend,BL] at hT;unfold d4i;rw[hT];exact⟨_,.inl rfl,rfl⟩
 rw[if_neg (by simp;omega),a3b (by omega),if_neg (by rw[a0i (by omega) (by omega)];omega)];obtain⟨c,hc1,hc2,hc3⟩:=hb.get (i:=i) (by omega);have hV':=hV (by omega);have e0:bits .and .u8 (c:Int) (128:Int)=((if c<128 then 0 else 128:Nat):Int):=by
  have:=d6c hc2 (show 128<256 by omega);rw[g2m hc2] at this;exact this
 rw[Ah,hc1,e0];have hw:Aa.wrap ((i:Int)+1)=((i+1:Nat):Int):=a0d (by omega);rw[hw];have hp:1≤2 ^ (7*i):=Nat.pow_pos (by omega);by_cases hcl:c<128
 ·rw[if_pos (by simp[hcl])];have hlast:=e6r (V:=V) (show i<b.length by omega) (by omega) (by omega);rw[←hT,hc3,Ah] at hlast;have good:V+c*2 ^ (7*i)<18446744073709551616→((i=0∨(c:Int)≠0))→Gets (some (((bits .or .u64 (V:Int) (Au.wrap ((Au.wrap (bits .and .u8 (c:Int) (127:Int)))*2 ^ min (Aa.wrap ((7:Int)*(i:Int))).toNat Au.bits))),((i+1:Nat):Int),UV.nil,()),())) (d4i b):=by
   intro h1 h2;refine Gets.some ?_;rw[f6c hV' (by omega) (by rw[Ed hcl];omega) hc2,Ed hcl];rw[if_pos ⟨h2,h1⟩] at hlast;unfold d4i;rw[hlast]
  have bad:¬((i=0∨(c:Int)≠0)∧V+c*2 ^ (7*i)<18446744073709551616)→Gets (some (((0:Int),(0:Int),(UV.node a8s (.pair (.str [98,121,116,101]) (.pair (UV.sent a4k) .unit))),()),())) (d4i b):=by
   intro h1;rw[if_neg h1] at hlast;refine Gets.some ?_;unfold d4i;rw[hlast];exact⟨_,.inr rfl,rfl⟩
  have nine:Gets (if decide ((i:Int)=9)=true then(if decide ((1:Int)<(c:Int))=true then some (((0:Int),(0:Int),(UV.node a8s (.pair (.str [98,121,116,101]) (.pair (UV.sent a4k) .unit))),()),()) else some (((bits .or .u64 (V:Int) (Au.wrap ((Au.wrap (bits .and .u8 (c:Int) (127:Int)))*2 ^ min (Aa.wrap ((7:Int)*(i:Int))).toNat Au.bits))),((i+1:Nat):Int),UV.nil,()),())) else some (((bits .or .u64 (V:Int) (Au.wrap ((Au.wrap (bits .and .u8 (c:Int) (127:Int)))*2 ^ min (Aa.wrap ((7:Int)*(i:Int))).toNat Au.bits))),((i+1:Nat):Int),UV.nil,()),()):Option ((Int×Int×UV×Unit)×Unit)) (fun y=>(i=0∨(c:Int)≠0)→d4i b y):=by
   by_cases h9:i=9
   ·subst h9;rw[if_pos (by simp)];by_cases hc1':1<c
    ·rw[if_pos (by simp;omega)];refine(bad ?_).mono fun y h _=>h
     rintro⟨_,h2⟩;have:2*2 ^ (7*9)≤c*2 ^ (7*9):=Ai _ hc1';omega
    ·rw[if_neg (by simp;omega)];by_cases hz:(9=0∨(c:Int)≠0)
     ·refine(good ?_ hz).mono fun y h _=>h
      have:c*2 ^ (7*9)≤1*2 ^ (7*9):=Ai _ (by omega);omega
     ·exact Gets.some fun h=>absurd h hz
   ·rw[if_neg (by simp;omega)];by_cases hz:(i=0∨(c:Int)≠0)
    ·refine(good ?_ hz).mono fun y h _=>h
     have h1:c*2 ^ (7*i)≤127*2 ^ (7*i):=Ai _ (by omega);have h2:2 ^ (7*i)≤2 ^ (7*8):=C1 (by omega) (by omega);omega
    ·exact Gets.some fun h=>absurd h hz
  by_cases hi0:0<i
  ·rw[if_pos (by simp;omega)];by_cases hc0:c=0
   ·subst hc0;rw[if_pos (by simp)];exact bad (by rintro⟨h1,_⟩;simp at h1;omega)
   ·rw[if_neg (by simp;omega)];exact nine.mono fun y h=>h (.inr (by omega))
  ·rw[if_neg (by simp;omega)];exact nine.mono fun y h=>h (.inl (by omega))
 ·rw[if_neg (by simp[hcl])];have hstep:=e6k (V:=V) (show i<b.length by omega) (by omega);rw[←hT,hc3,Ah] at hstep;have hcm:c - 128=c % 128:=by omega
  by_cases h9:i=9
  ·
   subst h9;have hnone:b3n b=none:=by rw[hstep];exact c8c
   have hb2:∃V':Nat,bits .or .u64 (V:Int) (Au.wrap ((Au.wrap (bits .and .u8 (c:Int) (127:Int)))*2 ^ min (Aa.wrap ((7:Int)*((9:Nat):Int))).toNat Au.bits))=(V':Int)∧V'<18446744073709551616:=by
    have hr:=f1g ((Au.wrap (bits .and .u8 (c:Int) (127:Int)))*2 ^ min (Aa.wrap ((7:Int)*((9:Nat):Int))).toNat Au.bits);obtain⟨q,hq⟩:∃q:Nat,Au.wrap ((Au.wrap (bits .and .u8 (c:Int) (127:Int)))*2 ^ min (Aa.wrap ((7:Int)*((9:Nat):Int))).toNat Au.bits)=(q:Int):=⟨_,(B4 hr.1).symm⟩
    rw[hq] at hr ⊢;have hq2:q<18446744073709551616:=by omega
    refine⟨V ||| q,d7v hV2 hq2,?_⟩;have:V ||| q<2 ^ 64:=Nat.or_lt_two_pow (by omega) (by omega);omega
   obtain⟨V',e1,e2⟩:=hb2;rw[e1];refine hrec _ ⟨V',10,rfl,by omega,by omega,?_,by omega,e2⟩ (by simp);rw[c8c,hnone]
  ·have hlt:c % 128*2 ^ (7*i)<18446744073709551616:=by
    have h1:c % 128*2 ^ (7*i)≤127*2 ^ (7*i):=Ai _ (by omega);have h2:2 ^ (7*i)≤2 ^ (7*8):=C1 (by omega) (by omega);omega
   rw[f6c hV' (by omega) hlt hc2];have hb1:c % 128*2 ^ (7*i)≤127*2 ^ (7*i):=Ai _ (by omega);refine hrec _ ⟨_,i+1,rfl,by omega,by omega,by rw[hstep,hcm],fun _=>by rw[pow7];omega,?_⟩ (by simp;omega);have h2:2 ^ (7*i)≤2 ^ (7*8):=C1 (by omega) (by omega);omega
theorem c1v{n:Nat}{b:List Int}(hb:a1v b)(hl:b.length<1000000)(hn:11≤n) :
  b9q n (b,())=some (match b3n b with|some (v,k)=>((v:Int),(k:Int),true,())|none=>(0,0,false,()),()):=by
 obtain⟨y,h1,h2⟩:=c8p hb hl hn;unfold b9q a2s;dsimp only;rw[h1];simp only[Ab];unfold d4i at h2;split at h2
 ·rename_i v k ht;subst h2;rfl
 ·rename_i ht;obtain⟨g,hg,rfl⟩:=h2;rcases hg with rfl|rfl <;> rfl
end Go.Rb.R7

namespace Go.Rb.R7
open Go.Rb
abbrev CV:=Int×Int×List Int×Unit
abbrev CI:=(Int×Int×Unit)×Int×Int×Int×Unit
abbrev CC:=Int×List Int×Int×Unit
abbrev CS:=List CC×Int×Unit
abbrev CL:=Int×Int×Int×List Int×Unit
abbrev CG:=Int×Int×List Int×Int×CV×Int×Int×Unit
abbrev CT:=Int×CS×CL×List (List CV)×List CI×Bool×CG×CS×CL×List CI×Int×Int×Unit
abbrev CR:=Int×CT×List (List CV)×Int×List CI×List CI×CG×Unit
def I64(v:Int):Prop:=-9223372036854775808≤v∧v≤9223372036854775807
def nB(v:Int):List Int:=putN (zig v)
def nsB(l:List Int):List Int:=l.flatMap nB
def txB(s:List Int):List Int:=nB (s.length:Int)++s
def vB(v:CV):List Int:=nB v.1++(nB v.2.1++txB v.2.2.1)
def rowB(r:List CV):List Int:=nB (r.length:Int)++r.flatMap vB
def b7r(l:List (List CV)):List Int:=nB (l.length:Int)++l.flatMap rowB
def itB(i:CI):List Int:=nsB [i.1.1,i.1.2.1,i.2.1,i.2.2.1,i.2.2.2.1]
def itsB(l:List CI):List Int:=nB (l.length:Int)++l.flatMap itB
def chB(c:CG):List Int:=nsB [c.1,c.2.1,c.2.2.2.1,c.2.2.2.2.2.1,c.2.2.2.2.2.2.1]++(txB c.2.2.1++vB c.2.2.2.2.1)
def clB(c:CC):List Int:=nsB [c.1,c.2.2.1]++txB c.2.1
def scB(s:CS)(l:CL):List Int:=nB (s.1.length:Int)++(s.1.flatMap clB++(nsB [s.2.1,l.1,l.2.1,l.2.2.1,(l.2.2.2.1.length:Int)]++nsB l.2.2.2.1))
def flB(b:Bool):List Int:=nB (if b=true then 1 else 0)
def stB(t:CT):List Int:=nB t.1++(scB t.2.1 t.2.2.1++(b7r t.2.2.2.1++(itsB t.2.2.2.2.1++(flB t.2.2.2.2.2.1++(chB t.2.2.2.2.2.2.1++(scB t.2.2.2.2.2.2.2.1 t.2.2.2.2.2.2.2.2.1++(itsB t.2.2.2.2.2.2.2.2.2.1++nsB [t.2.2.2.2.2.2.2.2.2.2.1,t.2.2.2.2.2.2.2.2.2.2.2.1])))))))
def recB(r:CR):List Int:=nB r.1++(if r.1=1 then stB r.2.1 else if r.1=2 then b7r r.2.2.1 else if r.1=3 then nB r.2.2.2.1++(itsB r.2.2.2.2.2.1++itsB r.2.2.2.2.1) else if r.1=5 then itsB r.2.2.2.2.1 else if r.1=4 then chB r.2.2.2.2.2.2.1 else[])
def okCV(v:CV):Prop:=I64 v.1∧I64 v.2.1
def f9s(r:List CV):Prop:=∀v,v∈r→okCV v
def c0g(l:List (List CV)):Prop:=∀r,r∈l→f9s r
def okCI(i:CI):Prop:=I64 i.1.1∧I64 i.1.2.1∧I64 i.2.1∧I64 i.2.2.1∧I64 i.2.2.2.1
def a7a(l:List CI):Prop:=∀i,i∈l→okCI i
def okCG(c:CG):Prop:=I64 c.1∧I64 c.2.1∧I64 c.2.2.2.1∧okCV c.2.2.2.2.1∧(0≤c.2.2.2.2.2.1∧c.2.2.2.2.2.1≤255)∧I64 c.2.2.2.2.2.2.1
def okCC(c:CC):Prop:=I64 c.1∧I64 c.2.2.1
def okCS(s:CS):Prop:=(∀c,c∈s.1→okCC c)∧I64 s.2.1
def okCL(l:CL):Prop:=I64 l.1∧I64 l.2.1∧I64 l.2.2.1∧∀e,e∈l.2.2.2.1→I64 e
def okCT(t:CT):Prop:=I64 t.1∧okCS t.2.1∧okCL t.2.2.1∧c0g t.2.2.2.1∧a7a t.2.2.2.2.1∧okCG t.2.2.2.2.2.2.1∧okCS t.2.2.2.2.2.2.2.1∧okCL t.2.2.2.2.2.2.2.2.1∧a7a t.2.2.2.2.2.2.2.2.2.1∧I64 t.2.2.2.2.2.2.2.2.2.2.1∧I64 t.2.2.2.2.2.2.2.2.2.2.2.1
def okCR(r:CR):Prop:=I64 r.1∧okCT r.2.1∧c0g r.2.2.1∧I64 r.2.2.2.1∧a7a r.2.2.2.2.1∧a7a r.2.2.2.2.2.1∧okCG r.2.2.2.2.2.2.1
theorem c4w(v:Int):1≤(nB v).length:=f5q _
theorem c7g{α:Type}(f:α→List Int)(l:List α)(k:Nat):((l.take k).flatMap f).length≤(l.flatMap f).length:=by
 conv=>rhs;rw[←Bw k l,EQ,Ac]
 omega
theorem a8n{α:Type}{f:α→List Int}(h:∀x,1≤(f x).length)(l:List α):l.length≤(l.flatMap f).length:=by
 induction l with
 |nil=>simp
 |cons x l ih=>rw[D0,Ac,Bd];have:=h x;omega
theorem d3p{k:Nat}(h:k≤140737488355328):I64 (k:Int):=⟨by omega,by omega⟩
theorem d8a{n:Nat}{w l:List Int}{u:Unit}(hi:∀v,v∈l→I64 v)(hn:w.length+(nsB l).length+10≤n)(hr:n≤140737488355328):a0f n ((w,u),l,())=some ((),((w++nsB l,u),())):=by
 have hro:=a4t;have hl:l.length≤(nsB l).length:=a8n c4w l;unfold a0f;dsimp only;refine(a4b (r:=some ((),((w++nsB l,u),()))) (fun i=>(((w++nsB (l.take i),u),(i:Int)):(List Int×Unit)×Int)) l.length (by simp[nsB]) ?_ ?_ (by omega))
 ·intro rec i h;have h1:=hi _ (A1 h);have h2:nsB (l.take (i+1))=nsB (l.take i)++nB l[i]:=b2g nB h;have h3:=c7g nB l (i+1);have h4:((l.take (i+1)).flatMap nB)=nsB (l.take i)++nB l[i]:=h2;rw[h4,Ac] at h3;dsimp only;rw[if_pos (by rw[decide_eq_true_eq];omega),a3b h,Ah,a8y h,c4t h1.1 h1.2];simp only[Ab];rw[c4z (e1w h1.1 h1.2) (by omega)];simp only[Ab];rw[if_pos (by unfold nsB nB at *;rw[Ac,hro];omega),a0d (by omega),h2,Ae];rfl
 ·intro rec;dsimp only;rw[if_neg (by rw[decide_eq_true_eq];omega),AL]
theorem e9c(v:Int):nsB [v]=nB v:=by simp[nsB]
theorem c7x{n:Nat}{w:List Int}{u:Unit}{v:Int}(hi:I64 v)(hn:w.length+(nB v).length+10≤n)(hr:n≤140737488355328):a0f n ((w,u),[v],())=some ((),((w++nB v,u),())):=by
 have:=d8a (n:=n) (w:=w) (u:=u) (l:=[v]) (by intro x hx;obtain rfl:=BS.1 hx;exact hi) (by rw[e9c];exact hn) hr;rwa [e9c] at this
theorem e9j{n:Nat}{w s:List Int}{u:Unit}(hn:w.length+(txB s).length+10≤n)(hr:n≤140737488355328):a4o n ((w,u),s,())=some ((),((w++txB s,u),())):=by
 have hro:=a4t;unfold txB at hn ⊢;rw[Ac] at hn;unfold a4o;dsimp only;rw[c7x (d3p (by omega)) (by omega) hr];simp only[Ab];rw[if_pos (by rw[Ac,hro];omega),Ae]
theorem e9f{n:Nat}{w:List Int}{u:Unit}{v:CV}(hv:okCV v)(hn:w.length+(vB v).length+10≤n)(hr:n≤140737488355328):a5t n ((w,u),v,())=some ((),((w++vB v,u),())):=by
 have hro:=a4t;unfold vB at hn ⊢;rw[Ac,Ac] at hn;unfold a5t;dsimp only;rw[c7x hv.1 (by omega) hr];simp only[Ab];rw[c4t hv.2.1 hv.2.2];simp only[Ab];rw[c4z (e1w hv.2.1 hv.2.2) (by omega)];simp only[Ab];have e:(putN (zig v.2.1))=nB v.2.1:=rfl;rw[e,if_pos (by rw[Ac,hro];omega),e9j (by rw[Ac,Ac];omega) hr];simp only[Ab,Ae]
theorem f5y(v:CV):1≤(vB v).length:=by
 unfold vB;rw[Ac];have:=c4w v.1;omega
theorem e3a(r:List CV):1≤(rowB r).length:=by
 unfold rowB;rw[Ac];have:=c4w (r.length:Int);omega
theorem f0p{n:Nat}{w:List Int}{u:Unit}{l:List (List CV)}(hl:c0g l)(hn:w.length+(b7r l).length+10≤n)(hr:n≤140737488355328):a4n n ((w,u),l,())=some ((),((w++b7r l,u),())):=by
 have hro:=a4t;have hll:=a8n e3a l;unfold b7r at hn ⊢;rw[Ac] at hn;unfold a4n;dsimp only;rw[c7x (d3p (by omega)) (by omega) hr];simp only[Ab];refine(a4b (r:=some ((),((w++(nB (l.length:Int)++l.flatMap rowB),u),()))) (fun i=>(((w++(nB (l.length:Int)++(l.take i).flatMap rowB),u),(i:Int)):(List Int×Unit)×Int)) l.length (by simp) ?_ ?_ (by omega))
 ·intro rec i h;have h1:=hl _ (A1 h);have h2:(l.take (i+1)).flatMap rowB=(l.take i).flatMap rowB++rowB l[i]:=b2g rowB h;have h3:=c7g rowB l (i+1);rw[h2,Ac] at h3;have hb:rowB l[i]=nB (l[i].length:Int)++l[i].flatMap vB:=rfl;have hvl:=a8n f5y l[i];rw[hb,Ac] at h3;dsimp only;rw[if_pos (by rw[decide_eq_true_eq];omega),a3b h,Ah,a8y h,c7x (d3p (by omega)) (by rw[Ac,Ac];omega) hr];simp only[Ab];refine(a4b (r:=rec ((w++(nB (l.length:Int)++(l.take (i+1)).flatMap rowB),u),((i+1:Nat):Int))) (fun j=>(((w++(nB (l.length:Int)++(l.take i).flatMap rowB)++(nB (l[i].length:Int)++(l[i].take j).flatMap vB),u),(j:Int)):(List Int×Unit)×Int)) l[i].length (by simp) ?_ ?_ (by omega))
  ·intro rec2 j hj;have g1:=h1 _ (A1 hj);have g2:(l[i].take (j+1)).flatMap vB=(l[i].take j).flatMap vB++vB l[i][j]:=b2g vB hj;have g3:=c7g vB l[i] (j+1);rw[g2,Ac] at g3;dsimp only;rw[if_pos (by rw[decide_eq_true_eq];omega),a3b hj,Ah,a8y hj,e9f g1 (by simp only[Ac];omega) hr];simp only[Ab];rw[a0d (by omega),g2];simp only[Ae]
  ·intro rec2;dsimp only;rw[if_neg (by rw[decide_eq_true_eq];omega),AL,a0d (by omega),h2,hb];simp only[Ae]
 ·intro rec;dsimp only;rw[if_neg (by rw[decide_eq_true_eq];omega),AL]
theorem f0y(i:CI):1≤(itB i).length:=by
 have:=a8n c4w [i.1.1,i.1.2.1,i.2.1,i.2.2.1,i.2.2.2.1];unfold itB nsB;simp only[Bd,A0] at this;omega
theorem c0y{n:Nat}{w:List Int}{u:Unit}{l:List CI}(hl:a7a l)(hn:w.length+(itsB l).length+10≤n)(hr:n≤140737488355328):a1t n ((w,u),l,())=some ((),((w++itsB l,u),())):=by
 have hro:=a4t;have hll:=a8n f0y l;unfold itsB at hn ⊢;rw[Ac] at hn;unfold a1t;dsimp only;rw[c7x (d3p (by omega)) (by omega) hr];simp only[Ab];refine(a4b (r:=some ((),((w++(nB (l.length:Int)++l.flatMap itB),u),()))) (fun i=>(((w++(nB (l.length:Int)++(l.take i).flatMap itB),u),(i:Int)):(List Int×Unit)×Int)) l.length (by simp) ?_ ?_ (by omega))
 ·intro rec i h;obtain⟨a1,a2,a3,a4,a5⟩:=hl _ (A1 h);have h2:(l.take (i+1)).flatMap itB=(l.take i).flatMap itB++itB l[i]:=b2g itB h;have h3:=c7g itB l (i+1);have hb:itB l[i]=nsB [l[i].1.1,l[i].1.2.1,l[i].2.1,l[i].2.2.1,l[i].2.2.2.1]:=rfl;rw[h2,Ac,hb] at h3;dsimp only;rw[if_pos (by rw[decide_eq_true_eq];omega),a3b h,Ah,a8y h,d8a (by
   intro v hv;simp only[A3,Bo,or_false] at hv;rcases hv with rfl|rfl|rfl|rfl|rfl <;> assumption) (by simp only[Ac];omega) hr]
  simp only[Ab];rw[a0d (by omega),h2];simp only[Ae];rfl
 ·intro rec;dsimp only;rw[if_neg (by rw[decide_eq_true_eq];omega),AL]
theorem d4d{n:Nat}{w:List Int}{u:Unit}{c:CG}(hc:okCG c)(hn:w.length+(chB c).length+10≤n)(hr:n≤140737488355328):a3k n ((w,u),c,())=some ((),((w++chB c,u),())):=by
 obtain⟨c1,c2,c3,c4,c5,c6⟩:=hc;unfold chB at hn ⊢;simp only[Ac] at hn;unfold a3k;dsimp only;rw[a0i (x:=c.2.2.2.2.2.1) (by omega) (by omega),d8a (by
  intro v hv;simp only[A3,Bo,or_false] at hv;rcases hv with rfl|rfl|rfl|rfl|rfl
  ·exact c1
  ·exact c2
  ·exact c3
  ·exact⟨by omega,by omega⟩
  ·exact c6) (by omega) hr]
 simp only[Ab];rw[e9j (by simp only[Ac];omega) hr];simp only[Ab];rw[e9f c4 (by simp only[Ac];omega) hr];simp only[Ab,Ae]
theorem e8w(c:CC):1≤(clB c).length:=by
 have:=a8n c4w [c.1,c.2.2.1];unfold clB nsB;rw[Ac];simp only[Bd,A0] at this;omega
theorem e3d{n:Nat}{w:List Int}{u:Unit}{s:CS}{l:CL}(hs:okCS s)(hl:okCL l)(hn:w.length+(scB s l).length+10≤n)(hr:n≤140737488355328):a4q n ((w,u),s,l,())=some ((),((w++scB s l,u),())):=by
 have hll:=a8n e8w s.1;have hle:=a8n c4w l.2.2.2.1;unfold scB at hn ⊢;simp only[Ac] at hn;have hle':l.2.2.2.1.length≤(nsB l.2.2.2.1).length:=hle;unfold a4q;dsimp only;rw[c7x (d3p (by omega)) (by omega) hr];simp only[Ab];refine(a4b (r:=some ((),((w++(nB (s.1.length:Int)++(s.1.flatMap clB++(nsB [s.2.1,l.1,l.2.1,l.2.2.1,(l.2.2.2.1.length:Int)]++nsB l.2.2.2.1))),u),()))) (fun i=>(((w++(nB (s.1.length:Int)++(s.1.take i).flatMap clB),u),(i:Int)):(List Int×Unit)×Int)) s.1.length (by simp) ?_ ?_ (by omega))
 ·intro rec i h;obtain⟨a1,a2⟩:=hs.1 _ (A1 h);have h2:(s.1.take (i+1)).flatMap clB=(s.1.take i).flatMap clB++clB s.1[i]:=b2g clB h;have h3:=c7g clB s.1 (i+1);have hb:clB s.1[i]=nsB [s.1[i].1,s.1[i].2.2.1]++txB s.1[i].2.1:=rfl;rw[h2,Ac,hb,Ac] at h3;dsimp only;rw[if_pos (by rw[decide_eq_true_eq];omega),a3b h,Ah,a8y h,d8a (by
   intro v hv;simp only[A3,Bo,or_false] at hv;rcases hv with rfl|rfl <;> assumption) (by simp only[Ac];omega) hr]
  simp only[Ab];rw[e9j (by simp only[Ac];omega) hr];simp only[Ab];rw[a0d (by omega),h2,hb];simp only[Ae]
 ·intro rec;dsimp only;rw[if_neg (by rw[decide_eq_true_eq];omega),AL,d8a (by
   intro v hv;simp only[A3,Bo,or_false] at hv;rcases hv with rfl|rfl|rfl|rfl|rfl
   ·exact hs.2
   ·exact hl.1
   ·exact hl.2.1
   ·exact hl.2.2.1
   ·exact d3p (by omega)) (by simp only[Ac];omega) hr]
  simp only[Ab];rw[d8a hl.2.2.2 (by simp only[Ac];omega) hr];simp only[Ab,Ae]
theorem g1v{n:Nat}{w:List Int}{u:Unit}{b:Bool}(hn:w.length+(flB b).length+10≤n)(hr:n≤140737488355328):a8z n ((w,u),b,())=some ((),((w++flB b,u),())):=by
 unfold flB at hn ⊢;unfold a8z;dsimp only;cases b with
 |true =>
  rw[if_pos rfl] at hn ⊢;rw[if_pos rfl,c7x ⟨by decide,by decide⟩ hn hr];rfl
 |false =>
  rw[if_neg (by decide)] at hn ⊢;rw[if_neg (by decide),c7x ⟨by decide,by decide⟩ hn hr];rfl
theorem e8m{n:Nat}{w:List Int}{u:Unit}{t:CT}(ht:okCT t)(hn:w.length+(stB t).length+10≤n)(hr:n≤140737488355328):a5x n ((w,u),t,())=some ((),((w++stB t,u),())):=by
 obtain⟨h1,h2,h3,h4,h5,h6,h7,h8,h9,h10,h11⟩:=ht;unfold stB at hn ⊢;simp only[Ac] at hn;unfold a5x;dsimp only;rw[c7x h1 (by omega) hr];simp only[Ab];rw[e3d h2 h3 (by simp only[Ac];omega) hr];simp only[Ab];rw[f0p h4 (by simp only[Ac];omega) hr];simp only[Ab];rw[c0y h5 (by simp only[Ac];omega) hr];simp only[Ab];rw[g1v (by simp only[Ac];omega) hr];simp only[Ab];rw[d4d h6 (by simp only[Ac];omega) hr];simp only[Ab];rw[e3d h7 h8 (by simp only[Ac];omega) hr];simp only[Ab];rw[c0y h9 (by simp only[Ac];omega) hr];simp only[Ab];rw[d8a (by
  intro v hv;simp only[A3,Bo,or_false] at hv;rcases hv with rfl|rfl <;> assumption) (by simp only[Ac];omega) hr]
 simp only[Ab,Ae]
theorem d4j{n:Nat}{w:List Int}{u:Unit}{r:CR}(hk:okCR r)(hn:w.length+(recB r).length+10≤n)(hr:n≤140737488355328):a3o n ((w,u),r,())=some ((),((w++recB r,u),())):=by
 obtain⟨h1,h2,h3,h4,h5,h6,h7⟩:=hk;unfold recB at hn ⊢;rw[Ac] at hn;unfold a3o;dsimp only;rw[c7x h1 (by omega) hr];simp only[Ab];by_cases k1:r.1=1
 ·rw[if_pos k1] at hn ⊢;rw[if_pos (decide_eq_true k1),e8m h2 (by simp only[Ac];omega) hr];simp only[Ab,Ae]
 rw[if_neg k1] at hn ⊢;rw[if_neg (by simpa using k1)];by_cases k2:r.1=2
 ·rw[if_pos k2] at hn ⊢;rw[if_pos (decide_eq_true k2),f0p h3 (by simp only[Ac];omega) hr];simp only[Ab,Ae]
 rw[if_neg k2] at hn ⊢;rw[if_neg (by simpa using k2)];by_cases k3:r.1=3
 ·rw[if_pos k3] at hn ⊢;simp only[Ac] at hn;rw[if_pos (decide_eq_true k3),c7x h4 (by simp only[Ac];omega) hr];simp only[Ab];rw[c0y h6 (by simp only[Ac];omega) hr];simp only[Ab];rw[c0y h5 (by simp only[Ac];omega) hr];simp only[Ab,Ae]
 rw[if_neg k3] at hn ⊢;rw[if_neg (by simpa using k3)];by_cases k5:r.1=5
 ·rw[if_pos k5] at hn ⊢;rw[if_pos (decide_eq_true k5),c0y h5 (by simp only[Ac];omega) hr];simp only[Ab,Ae]
 rw[if_neg k5] at hn ⊢;rw[if_neg (by simpa using k5)];by_cases k4:r.1=4
 ·rw[if_pos k4] at hn ⊢;rw[if_pos (decide_eq_true k4),d4d h7 (by simp only[Ac];omega) hr];simp only[Ab,Ae]
 rw[if_neg k4,if_neg (by simpa using k4),List.append_nil]
def allB(r:CR):List Int:=nsB [r.1,r.2.2.2.1]++(stB r.2.1++(b7r r.2.2.1++(itsB r.2.2.2.2.1++(itsB r.2.2.2.2.2.1++chB r.2.2.2.2.2.2.1))))
theorem f9g{n:Nat}{r:CR}(hk:okCR r)(hn:(allB r).length+10≤n)(hr:n≤140737488355328):b3v n (r,())=some ((allB r,()),()):=by
 obtain⟨h1,h2,h3,h4,h5,h6,h7⟩:=hk;unfold allB at hn ⊢;simp only[Ac] at hn;unfold b3v;dsimp only;rw[d8a (by
  intro v hv;simp only[A3,Bo,or_false] at hv;rcases hv with rfl|rfl <;> assumption) (by simp only[A0];omega) hr]
 simp only[Ab];rw[e8m h2 (by simp only[Ac,A0];omega) hr];simp only[Ab];rw[f0p h3 (by simp only[Ac,A0];omega) hr];simp only[Ab];rw[c0y h5 (by simp only[Ac,A0];omega) hr];simp only[Ab];rw[c0y h6 (by simp only[Ac,A0];omega) hr];simp only[Ab];rw[d4d h7 (by simp only[Ac,A0];omega) hr];simp only[Ab,Ae,B5]
end Go.Rb.R7

namespace Go.Rb.R7
open Go.Rb
def Fw(b b':List Int):Prop:=a1v b'∧b'.length≤b.length
theorem Fw.refl{b:List Int}(h:a1v b):Fw b b:=⟨h,Nat.le_refl _⟩
theorem Fw.trans{a b c:List Int}(h1:Fw a b)(h2:Fw b c):Fw a c:=⟨h2.1,AM h2.2 h1.2⟩
theorem Fw.nil{b:List Int}:Fw b []:=⟨(fun x hx=>by cases hx),A8 _⟩
theorem Fw.drop{b:List Int}(h:a1v b)(k:Nat):Fw b (b.drop k):=⟨fun x hx=>h x (List.mem_of_mem_drop hx),by rw[B8];omega⟩
theorem a1a:I64 0:=⟨by decide,by decide⟩
theorem f6g{n:Nat}{b:List Int}{s:Bool}{u:Unit}(hb:a1v b)(hl:b.length<1000000)(hn:11≤n) :
  Gets (a3i n ((b,s,u),())) fun y=>∃v b' s',y=((v,()),((b',s',u),()))∧I64 v∧Fw b b':=by
 unfold a3i;dsimp only;rw[c1v hb hl hn];simp only[Ab];cases ht:b3n b with
 |none=>exact Gets.some ⟨0,[],true,rfl,a1a,Fw.nil⟩
 |some q =>
  obtain⟨v,k⟩:=q;obtain⟨t1,t2,_⟩:=c4c hb ht;dsimp only;refine Gets.not (fun h=>by cases h) fun _=>?_
  cases s with
  |true=>exact Gets.some ⟨0,[],true,rfl,a1a,Fw.nil⟩
  |false =>
   refine Gets.neg (by decide) (Gets.pos (by omega) ?_);rw[c4x t1];simp only[Ab];rw[Ah,Ah,AL];exact Gets.some ⟨_,_,false,rfl,g1w t1,Fw.drop hb k⟩
theorem b2m{n:Nat}{b:List Int}{s:Bool}{u:Unit}(hb:a1v b)(hl:b.length<1000000)(hn:11≤n) :
  Gets (a0b n ((b,s,u),())) fun y=>∃v b' s',y=((v,()),((b',s',u),()))∧I64 v∧Fw b b':=by
 unfold a0b;dsimp only;refine Gets.bind (f6g hb hl hn) ?_;rintro _ ⟨v,b',s',rfl,h1,h2⟩;exact Gets.some ⟨v,b',s',rfl,h1,h2⟩
theorem d2i{n:Nat}{b:List Int}{s:Bool}{u:Unit}(hb:a1v b)(hl:b.length<1000000)(hn:11≤n) :
  Gets (a1q n ((b,s,u),())) fun y=>∃(k:Nat) (b':List Int) (s':Bool),y=(((k:Int),()),((b',s',u),()))∧k≤b'.length∧Fw b b':=by
 unfold a1q;dsimp only;refine Gets.bind (b2m hb hl hn) ?_;rintro _ ⟨v,b',s',rfl,h1,h2⟩;dsimp only;refine Gets.dec (fun _=>Gets.some ⟨0,[],true,rfl,A8 _,Fw.nil⟩) fun h3=>?_
 refine Gets.dec (fun _=>Gets.some ⟨0,[],true,rfl,A8 _,Fw.nil⟩) fun h4=>?_
 exact Gets.some ⟨v.toNat,b',s',by rw[B4 (by omega)],by omega,h2⟩
theorem e7n{n:Nat}{b:List Int}{s:Bool}{u:Unit}(hb:a1v b)(hl:b.length<1000000)(hn:11≤n) :
  Gets (a2v n ((b,s,u),())) fun y=>∃t b' s',y=((t,()),((b',s',u),()))∧t.length≤b.length∧Fw b b':=by
 unfold a2v;dsimp only;refine Gets.bind (d2i hb hl hn) ?_;rintro _ ⟨k,b',s',rfl,h1,h2⟩;dsimp only;refine Gets.pos (by omega) (Gets.pos (by omega) (Gets.some ⟨_,_,_,rfl,?_,?_⟩))
 ·have:=h2.2;rw[B8,A7];omega
 ·rw[Ah,Ah,AL];exact h2.trans (Fw.drop h2.1 _)
def szV(m:Nat)(v:CV):Prop:=v.2.2.1.length≤m
theorem e9s{n:Nat}{b:List Int}{s:Bool}{u:Unit}(hb:a1v b)(hl:b.length<1000000)(hn:11≤n) :
  Gets (a3d n ((b,s,u),())) fun y=>∃v b' s',y=((v,()),((b',s',u),()))∧(okCV v∧szV b.length v)∧Fw b b':=by
 unfold a3d;dsimp only;refine Gets.bind (b2m hb hl hn) ?_;rintro _ ⟨v1,b1,s1,rfl,h1,h2⟩;dsimp only;refine Gets.bind (f6g h2.1 (by have:=h2.2;omega) hn) ?_;rintro _ ⟨v2,b2,s2,rfl,h3,h4⟩;dsimp only;refine Gets.bind (e7n h4.1 (by have:=h2.2;have:=h4.2;omega) hn) ?_;rintro _ ⟨t,b3,s3,rfl,h5,h6⟩;refine Gets.some ⟨(v1,v2,t,()),b3,s3,rfl,⟨⟨h1,h3⟩,?_⟩,h2.trans (h4.trans h6)⟩;have:=h2.2;have:=h4.2;show t.length≤b.length;omega
def f8v(m:Nat)(r:List CV):Prop:=r.length≤m∧∀v,v∈r→szV m v
def c0d(m:Nat)(l:List (List CV)):Prop:=l.length≤m∧∀r,r∈l→f8v m r
theorem a8q{α:Type}{P:α→Prop}{l:List α}{x:α}(h:∀y,y∈l→P y)(hx:P x):∀y,y∈l++[x]→P y:=by
 intro y hy;rcases Aq.1 hy with hy|hy
 ·exact h y hy
 ·obtain rfl:=BS.1 hy;exact hx
theorem f6i{n:Nat}{b:List Int}{s:Bool}{u:Unit}(hb:a1v b)(hl:b.length<1000000)(hn:1000001≤n) :
  Gets (a3j n ((b,s,u),())) fun y=>∃v b' s',y=((v,()),((b',s',u),()))∧(c0g v∧c0d b.length v)∧Fw b b':=by
 have hro:=a4t;unfold a3j;dsimp only;refine Gets.bind (d2i hb hl (by omega)) ?_;rintro _ ⟨k,b1,s1,rfl,h1,h2⟩;dsimp only;have hb1:=h2.2;refine Gets.iter (I:=fun q=>∃(b':List Int) (s':Bool) (l:List (List CV)) (i:Nat),q=((b',s',u),l,(i:Int))∧l.length=i∧i≤k∧Fw b b'∧c0g l∧∀r,r∈l→f8v b.length r) (μ:=fun q=>k - q.2.2.toNat)
  ⟨b1,s1,[],0,rfl,rfl,A8 _,h2,(fun r hr=>by cases hr),(fun r hr=>by cases hr)⟩ (by simp only[Cu];omega) ?_
 rintro rec _ ⟨b2,s2,l,i,rfl,hli,hik,h3,h4,h5⟩ hrec;dsimp only;have hb2:=h3.2;refine Gets.dec (fun hlt=>?_) fun hge=>?_
 ·refine Gets.bind (d2i h3.1 (by omega) (by omega)) ?_;rintro _ ⟨k2,b3,s3,rfl,g1,g2⟩;dsimp only;have hb3:=g2.2;refine Gets.iter (I:=fun q=>∃(b':List Int) (s':Bool) (r:List CV) (j:Nat),q=((b',s',u),r,(j:Int))∧r.length=j∧j≤k2∧Fw b b'∧f9s r∧∀v,v∈r→szV b.length v) (μ:=fun q=>k2 - q.2.2.toNat)
   ⟨b3,s3,[],0,rfl,rfl,A8 _,h3.trans g2,(fun r hr=>by cases hr),(fun r hr=>by cases hr)⟩ (by simp only[Cu];omega) ?_
  rintro rec2 _ ⟨b4,s4,r,j,rfl,hrj,hjk,g3,g4,g5⟩ hrec2;dsimp only;have hb4:=g3.2;refine Gets.dec (fun hlt2=>?_) fun hge2=>?_
  ·refine Gets.bind (e9s g3.1 (by omega) (by omega)) ?_;rintro _ ⟨v,b5,s5,rfl,⟨g6,g7⟩,g8⟩;dsimp only;refine Gets.pos (by simp only[Av];omega) ?_;rw[a0d (by omega)];refine hrec2 _ ⟨b5,s5,r++[v],j+1,rfl,by simp[hrj],by omega,g3.trans g8,a8q g4 g6,a8q g5 (by unfold szV at *;omega)⟩ (by simp only[Ah];omega)
  ·refine Gets.pos (by simp only[Av];omega) ?_;rw[a0d (by omega)];exact hrec _ ⟨b4,s4,l++[r],i+1,rfl,by simp[hli],by omega,g3,a8q h4 g4,a8q h5 ⟨by omega,g5⟩⟩ (by simp only[Ah];omega)
 ·exact Gets.some ⟨l,b2,s2,rfl,⟨h4,by omega,h5⟩,h3⟩
theorem c8z{n:Nat}{b:List Int}{s:Bool}{u:Unit}(hb:a1v b)(hl:b.length<1000000)(hn:1000001≤n) :
  Gets (a1r n ((b,s,u),())) fun y=>∃v b' s',y=((v,()),((b',s',u),()))∧(a7a v∧v.length≤b.length)∧Fw b b':=by
 have hro:=a4t;unfold a1r;dsimp only;refine Gets.bind (d2i hb hl (by omega)) ?_;rintro _ ⟨k,b1,s1,rfl,h1,h2⟩;dsimp only;have hb1:=h2.2;refine Gets.iter (I:=fun q=>∃(b':List Int) (s':Bool) (l:List CI) (i:Nat),q=((b',s',u),l,(i:Int))∧l.length=i∧i≤k∧Fw b b'∧a7a l) (μ:=fun q=>k - q.2.2.toNat)
  ⟨b1,s1,[],0,rfl,rfl,A8 _,h2,(fun r hr=>by cases hr)⟩ (by simp only[Cu];omega) ?_
 rintro rec _ ⟨b2,s2,l,i,rfl,hli,hik,h3,h4⟩ hrec;dsimp only;have hb2:=h3.2;refine Gets.dec (fun hlt=>?_) fun hge=>?_
 ·refine Gets.bind (b2m h3.1 (by omega) (by omega)) ?_;rintro _ ⟨v1,c1,t1,rfl,g1,f1⟩;dsimp only;have e1:=f1.2;refine Gets.bind (b2m f1.1 (by omega) (by omega)) ?_;rintro _ ⟨v2,c2,t2,rfl,g2,f2⟩;dsimp only;have e2:=f2.2;refine Gets.bind (b2m f2.1 (by omega) (by omega)) ?_;rintro _ ⟨v3,c3,t3,rfl,g3,f3⟩;dsimp only;have e3:=f3.2;refine Gets.bind (b2m f3.1 (by omega) (by omega)) ?_;rintro _ ⟨v4,c4,t4,rfl,g4,f4⟩;dsimp only;have e4:=f4.2;refine Gets.bind (b2m f4.1 (by omega) (by omega)) ?_;rintro _ ⟨v5,c5,t5,rfl,g5,f5⟩;dsimp only;refine Gets.pos (by simp only[Av];omega) ?_;rw[a0d (by omega)];exact hrec _ ⟨c5,t5,l++[((v1,v2,()),v3,v4,v5,())],i+1,rfl,by simp[hli],by omega,h3.trans (f1.trans (f2.trans (f3.trans (f4.trans f5)))),a8q h4 ⟨g1,g2,g3,g4,g5⟩⟩ (by simp only[Ah];omega)
 ·exact Gets.some ⟨l,b2,s2,rfl,⟨h4,by omega⟩,h3⟩
theorem g3n(x:Int):0≤A6.wrap x∧A6.wrap x≤255:=by
 rw[c7n];omega
def szG(m:Nat)(c:CG):Prop:=c.2.2.1.length≤m∧szV m c.2.2.2.2.1
theorem e1y{n:Nat}{b:List Int}{s:Bool}{u:Unit}(hb:a1v b)(hl:b.length<1000000)(hn:11≤n) :
  Gets (a2u n ((b,s,u),())) fun y=>∃v b' s',y=((v,()),((b',s',u),()))∧(okCG v∧szG b.length v)∧Fw b b':=by
 unfold a2u;dsimp only;refine Gets.bind (b2m hb hl hn) ?_;rintro _ ⟨v1,c1,t1,rfl,g1,f1⟩;dsimp only;have e1:=f1.2;refine Gets.bind (b2m f1.1 (by omega) hn) ?_;rintro _ ⟨v2,c2,t2,rfl,g2,f2⟩;dsimp only;have e2:=f2.2;refine Gets.bind (b2m f2.1 (by omega) hn) ?_;rintro _ ⟨v3,c3,t3,rfl,g3,f3⟩;dsimp only;have e3:=f3.2;refine Gets.bind (b2m f3.1 (by omega) hn) ?_;rintro _ ⟨v4,c4,t4,rfl,g4,f4⟩;dsimp only;have e4:=f4.2;refine Gets.bind (b2m f4.1 (by omega) hn) ?_;rintro _ ⟨v5,c5,t5,rfl,g5,f5⟩;dsimp only;have e5:=f5.2;refine Gets.bind (e7n f5.1 (by omega) hn) ?_;rintro _ ⟨v6,c6,t6,rfl,g6,f6⟩;dsimp only;have e6:=f6.2;refine Gets.bind (e9s f6.1 (by omega) hn) ?_;rintro _ ⟨v7,c7,t7,rfl,⟨g7,g8⟩,f7⟩;refine Gets.some ⟨_,c7,t7,rfl,⟨⟨g1,g2,g3,g7,g3n _,g5⟩,?_,?_⟩,f1.trans (f2.trans (f3.trans (f4.trans (f5.trans (f6.trans f7)))))⟩
 ·show v6.length≤b.length;omega
 ·unfold szV at *;show v7.2.2.1.length≤b.length;omega
def szS(m:Nat)(s:CS):Prop:=s.1.length≤m∧∀c,c∈s.1→c.2.1.length≤m
end Go.Rb.R7

namespace Go.Rb.R7
open Go.Rb
def szL(m:Nat)(l:CL):Prop:=l.2.2.2.1.length≤m
theorem e3v{n:Nat}{b:List Int}{s:Bool}{u:Unit}(hb:a1v b)(hl:b.length<1000000)(hn:1000001≤n) :
  Gets (a2t n ((b,s,u),())) fun y=>∃v w b' s',y=((v,w,()),((b',s',u),()))∧(okCS v∧szS b.length v)∧(okCL w∧szL b.length w)∧Fw b b':=by
 have hro:=a4t;unfold a2t;dsimp only;refine Gets.bind (d2i hb hl (by omega)) ?_;rintro _ ⟨k,b1,s1,rfl,h1,h2⟩;dsimp only;have hb1:=h2.2;refine Gets.iter (I:=fun q=>∃(b':List Int) (s':Bool) (l:List CC) (i:Nat),q=((b',s',u),(l,0,()),(i:Int))∧l.length=i∧i≤k∧Fw b b'∧(∀c,c∈l→okCC c)∧∀c,c∈l→c.2.1.length≤b.length) (μ:=fun q=>k - q.2.2.toNat)
  ⟨b1,s1,[],0,rfl,rfl,A8 _,h2,fun r hr=>(by cases hr),fun r hr=>(by cases hr)⟩ (by simp only[Cu];omega) ?_
 rintro rec _ ⟨b2,s2,l,i,rfl,hli,hik,h3,h4,h5⟩ hrec;dsimp only;have hb2:=h3.2;refine Gets.dec (fun hlt=>?_) fun hge=>?_
 ·refine Gets.bind (b2m h3.1 (by omega) (by omega)) ?_;rintro _ ⟨v1,c1,t1,rfl,g1,f1⟩;dsimp only;have e1:=f1.2;refine Gets.bind (b2m f1.1 (by omega) (by omega)) ?_;rintro _ ⟨v2,c2,t2,rfl,g2,f2⟩;dsimp only;have e2:=f2.2;refine Gets.bind (e7n f2.1 (by omega) (by omega)) ?_;rintro _ ⟨v3,c3,t3,rfl,g3,f3⟩;dsimp only;refine Gets.pos (by simp only[Av];omega) ?_;rw[a0d (by omega)];exact hrec _ ⟨c3,t3,l++[(v1,v3,v2,())],i+1,rfl,by simp[hli],by omega,h3.trans (f1.trans (f2.trans f3)),a8q h4 ⟨g1,g2⟩,a8q h5 (by show v3.length≤b.length;omega)⟩ (by simp only[Ah];omega)
 refine Gets.bind (b2m h3.1 (by omega) (by omega)) ?_;rintro _ ⟨v1,c1,t1,rfl,g1,f1⟩;dsimp only;have e1:=f1.2;refine Gets.bind (b2m f1.1 (by omega) (by omega)) ?_;rintro _ ⟨v2,c2,t2,rfl,g2,f2⟩;dsimp only;have e2:=f2.2;refine Gets.bind (b2m f2.1 (by omega) (by omega)) ?_;rintro _ ⟨v3,c3,t3,rfl,g3,f3⟩;dsimp only;have e3:=f3.2;refine Gets.bind (b2m f3.1 (by omega) (by omega)) ?_;rintro _ ⟨v4,c4,t4,rfl,g4,f4⟩;dsimp only;have e4:=f4.2;refine Gets.bind (d2i f4.1 (by omega) (by omega)) ?_;rintro _ ⟨k2,b3,s3,rfl,g5,f5⟩;dsimp only;have e5:=f5.2;refine Gets.iter (I:=fun q=>∃(b':List Int) (s':Bool) (r:List Int) (j:Nat),q=((b',s',u),(v2,v3,v4,r,()),(j:Int))∧r.length=j∧j≤k2∧Fw b b'∧∀e,e∈r→I64 e) (μ:=fun q=>k2 - q.2.2.toNat)
  ⟨b3,s3,[],0,rfl,rfl,A8 _,h3.trans (f1.trans (f2.trans (f3.trans (f4.trans f5)))),fun r hr=>(by cases hr)⟩ (by simp only[Cu];omega) ?_
 rintro rec2 _ ⟨b4,s4,r,j,rfl,hrj,hjk,q3,q4⟩ hrec2;dsimp only;have hb4:=q3.2;refine Gets.dec (fun hlt2=>?_) fun hge2=>?_
 ·refine Gets.bind (b2m q3.1 (by omega) (by omega)) ?_;rintro _ ⟨v,b5,s5,rfl,q6,q8⟩;dsimp only;refine Gets.pos (by simp only[Av];omega) ?_;rw[a0d (by omega)];exact hrec2 _ ⟨b5,s5,r++[v],j+1,rfl,by simp[hrj],by omega,q3.trans q8,a8q q4 q6⟩ (by simp only[Ah];omega)
 ·exact Gets.some ⟨(l,v1,()),(v2,v3,v4,r,()),b4,s4,rfl,⟨⟨h4,g1⟩,by show l.length≤_;omega,h5⟩,⟨⟨g2,g3,g4,q4⟩,by show r.length≤_;omega⟩,q3⟩
def szT(m:Nat)(t:CT):Prop:=szS m t.2.1∧szL m t.2.2.1∧c0d m t.2.2.2.1∧t.2.2.2.2.1.length≤m∧szG m t.2.2.2.2.2.2.1∧szS m t.2.2.2.2.2.2.2.1∧szL m t.2.2.2.2.2.2.2.2.1∧t.2.2.2.2.2.2.2.2.2.1.length≤m
theorem szS.le{m k:Nat}{s:CS}(h:szS m s)(hk:m≤k):szS k s:=⟨AM h.1 hk,fun c hc=>AM (h.2 c hc) hk⟩
theorem szL.le{m k:Nat}{s:CL}(h:szL m s)(hk:m≤k):szL k s:=AM h hk
theorem c0d.le{m k:Nat}{s:List (List CV)}(h:c0d m s)(hk:m≤k):c0d k s:=⟨AM h.1 hk,fun r hr=>⟨AM (h.2 r hr).1 hk,fun v hv=>AM ((h.2 r hr).2 v hv) hk⟩⟩
theorem szG.le{m k:Nat}{s:CG}(h:szG m s)(hk:m≤k):szG k s:=⟨AM h.1 hk,AM h.2 hk⟩
theorem f8p{n:Nat}{b:List Int}{s:Bool}{u:Unit}(hb:a1v b)(hl:b.length<1000000)(hn:1000001≤n) :
  Gets (a3y n ((b,s,u),())) fun y=>∃v b' s',y=((v,()),((b',s',u),()))∧(okCT v∧szT b.length v)∧Fw b b':=by
 unfold a3y;dsimp only;refine Gets.bind (b2m hb hl (by omega)) ?_;rintro _ ⟨v1,c1,t1,rfl,g1,f1⟩;dsimp only;have e1:=f1.2;refine Gets.bind (e3v f1.1 (by omega) hn) ?_;rintro _ ⟨v2,w2,c2,t2,rfl,g2,k2,f2⟩;dsimp only;have e2:=f2.2;refine Gets.bind (f6i f2.1 (by omega) hn) ?_;rintro _ ⟨v3,c3,t3,rfl,g3,f3⟩;dsimp only;have e3:=f3.2;refine Gets.bind (c8z f3.1 (by omega) hn) ?_;rintro _ ⟨v4,c4,t4,rfl,g4,f4⟩;dsimp only;have e4:=f4.2;refine Gets.bind (b2m f4.1 (by omega) (by omega)) ?_;rintro _ ⟨v5,c5,t5,rfl,g5,f5⟩;dsimp only;have e5:=f5.2;refine Gets.bind (e1y f5.1 (by omega) (by omega)) ?_;rintro _ ⟨v6,c6,t6,rfl,g6,f6⟩;dsimp only;have e6:=f6.2;refine Gets.bind (e3v f6.1 (by omega) hn) ?_;rintro _ ⟨v7,w7,c7,t7,rfl,g7,k7,f7⟩;dsimp only;have e7:=f7.2;refine Gets.bind (c8z f7.1 (by omega) hn) ?_;rintro _ ⟨v8,c8,t8,rfl,g8,f8⟩;dsimp only;have e8:=f8.2;refine Gets.bind (b2m f8.1 (by omega) (by omega)) ?_;rintro _ ⟨v9,c9,t9,rfl,g9,f9⟩;dsimp only;have e9:=f9.2;refine Gets.bind (b2m f9.1 (by omega) (by omega)) ?_;rintro _ ⟨v10,c10,t10,rfl,g10,f10⟩;refine Gets.some ⟨_,c10,t10,rfl,⟨⟨g1,g2.1,k2.1,g3.1,g4.1,g6.1,g7.1,k7.1,g8.1,g9,g10⟩,g2.2.le (by omega),k2.2.le (by omega),g3.2.le (by omega),?_,g6.2.le (by omega),g7.2.le (by omega),k7.2.le (by omega),?_⟩,
  f1.trans (f2.trans (f3.trans (f4.trans (f5.trans (f6.trans (f7.trans (f8.trans (f9.trans f10))))))))⟩
 ·have:=g4.2;show v4.length≤_;omega
 ·have:=g8.2;show v8.length≤_;omega
theorem a5e{v:Int}(h:I64 v):(nB v).length≤10:=e8y (e1w h.1 h.2)
theorem b1t{α:Type}{f:α→List Int}{k:Nat}:∀{l:List α},(∀x,x∈l→(f x).length≤k)→(l.flatMap f).length≤l.length*k
 |[],_=>by simp
 |x::l,h=>by
  rw[D0,Ac,Bd,Nat.succ_mul];have:=h x (by simp);have:=b1t (l:=l) fun y hy=>h y (by simp[hy])
  omega
theorem b8w{l:List Int}(h:∀v,v∈l→I64 v):(nsB l).length≤l.length*10:=b1t fun v hv=>a5e (h v hv)
theorem d3i{s:List Int}{m:Nat}(h:s.length≤m)(hm:m≤1000000):(txB s).length≤10+m:=by
 unfold txB;rw[Ac];have:=a5e (v:=(s.length:Int)) ⟨by omega,by omega⟩;omega
theorem e0z{v:CV}{m:Nat}(hv:okCV v)(h:szV m v)(hm:m≤1000000):(vB v).length≤30+m:=by
 unfold vB;simp only[Ac];have:=a5e hv.1;have:=a5e hv.2;have:=d3i h hm;omega
theorem e7u{r:List CV}{m:Nat}(hv:f9s r)(h:f8v m r)(hm:m≤1000000):(rowB r).length≤10+m*(30+m):=by
 unfold rowB;rw[Ac];have:=a5e (v:=(r.length:Int)) ⟨by omega,by have:=h.1;omega⟩;have h1:=b1t (l:=r) (f:=vB) (k:=30+m) fun v hq=>e0z (hv v hq) (h.2 v hq) hm
 have h2:=Ai (30+m) h.1;omega
theorem e5y{l:List (List CV)}{m:Nat}(hv:c0g l)(h:c0d m l)(hm:m≤1000000):(b7r l).length≤10+m*(10+m*(30+m)):=by
 unfold b7r;rw[Ac];have:=a5e (v:=(l.length:Int)) ⟨by omega,by have:=h.1;omega⟩;have h1:=b1t (l:=l) (f:=rowB) (k:=10+m*(30+m)) fun v hq=>e7u (hv v hq) (h.2 v hq) hm
 have h2:=Ai (10+m*(30+m)) h.1;omega
theorem d5x{l:List CI}{m:Nat}(hv:a7a l)(h:l.length≤m)(hm:m≤1000000):(itsB l).length≤10+m*50:=by
 unfold itsB;rw[Ac];have:=a5e (v:=(l.length:Int)) ⟨by omega,by omega⟩;have h1:=b1t (l:=l) (f:=itB) (k:=50) fun v hq=>by
  obtain⟨a1,a2,a3,a4,a5⟩:=hv v hq;have:=b8w (l:=[v.1.1,v.1.2.1,v.2.1,v.2.2.1,v.2.2.2.1]) (by
   intro x hx;simp only[A3,Bo,or_false] at hx;rcases hx with rfl|rfl|rfl|rfl|rfl <;> assumption)
  exact this
 have h2:=Ai 50 h;omega
theorem d4h{c:CG}{m:Nat}(hc:okCG c)(h:szG m c)(hm:m≤1000000):(chB c).length≤90+2*m:=by
 obtain⟨c1,c2,c3,c4,c5,c6⟩:=hc;unfold chB;simp only[Ac];have h1:=b8w (l:=[c.1,c.2.1,c.2.2.2.1,c.2.2.2.2.2.1,c.2.2.2.2.2.2.1]) (by
  intro x hx;simp only[A3,Bo,or_false] at hx;rcases hx with rfl|rfl|rfl|rfl|rfl
  ·exact c1
  ·exact c2
  ·exact c3
  ·exact⟨by omega,by omega⟩
  ·exact c6)
 have h2:=d3i h.1 hm;have h3:=e0z c4 h.2 hm;simp only[Bd,A0] at h1;omega
theorem d3s{s:CS}{l:CL}{m:Nat}(hs:okCS s)(hl:okCL l)(h:szS m s)(h':szL m l)(hm:m≤1000000):(scB s l).length≤60+m*(30+m)+m*10:=by
 unfold scB;simp only[Ac];have g0:=a5e (v:=(s.1.length:Int)) ⟨by omega,by have:=h.1;omega⟩;have g1:=b1t (l:=s.1) (f:=clB) (k:=30+m) fun c hc=>by
  obtain⟨a1,a2⟩:=hs.1 c hc;unfold clB;rw[Ac];have q1:=b8w (l:=[c.1,c.2.2.1]) (by
   intro x hx;simp only[A3,Bo,or_false] at hx;rcases hx with rfl|rfl <;> assumption)
  have q2:=d3i (h.2 c hc) hm;simp only[Bd,A0] at q1;omega
 have g2:=Ai (30+m) h.1;have g3:=b8w (l:=[s.2.1,l.1,l.2.1,l.2.2.1,(l.2.2.2.1.length:Int)]) (by
  intro x hx;simp only[A3,Bo,or_false] at hx;rcases hx with rfl|rfl|rfl|rfl|rfl
  ·exact hs.2
  ·exact hl.1
  ·exact hl.2.1
  ·exact hl.2.2.1
  ·exact⟨by omega,by have:l.2.2.2.1.length≤m:=h';omega⟩)
 have g4:=b8w hl.2.2.2;have g5:=Ai 10 (show l.2.2.2.1.length≤m from h');simp only[Bd,A0] at g3;omega
end Go.Rb.R7

namespace Go.Rb.R7
open Go.Rb
abbrev zG:CG:=(0,0,[],0,(0,0,[],()),0,0,())
abbrev zT:CT:=(0,([],0,()),(0,0,0,[],()),[],[],false,zG,([],0,()),(0,0,0,[],()),[],0,0,())
abbrev zR:CR:=(0,zT,[],0,[],[],zG,())
theorem okG0:okCG zG:=⟨a1a,a1a,a1a,⟨a1a,a1a⟩,⟨by decide,by decide⟩,a1a⟩
theorem okS0:okCS ([],0,()):=⟨(fun c hc=>by cases hc),a1a⟩
theorem okL0:okCL (0,0,0,[],()):=⟨a1a,a1a,a1a,fun c hc=>by cases hc⟩
theorem c0x:c0g []:=fun c hc=>by cases hc
theorem a5i:a7a []:=fun c hc=>by cases hc
theorem okT0:okCT zT:=⟨a1a,okS0,okL0,c0x,a5i,okG0,okS0,okL0,a5i,a1a,a1a⟩
theorem szG0{m:Nat}:szG m zG:=⟨A8 _,A8 _⟩
theorem szS0{m:Nat}:szS m ([],0,()):=⟨A8 _,fun c hc=>by cases hc⟩
theorem szL0{m:Nat}:szL m (0,0,0,[],()):=A8 _
theorem c1b{m:Nat}:c0d m []:=⟨A8 _,fun c hc=>by cases hc⟩
theorem szT0{m:Nat}:szT m zT:=⟨szS0,szL0,c1b,A8 _,szG0,szS0,szL0,A8 _⟩
def szR(m:Nat)(r:CR):Prop:=szT m r.2.1∧c0d m r.2.2.1∧r.2.2.2.2.1.length≤m∧r.2.2.2.2.2.1.length≤m∧szG m r.2.2.2.2.2.2.1
theorem d3d{l:List (List CV)}{m:Nat}(hv:c0g l)(h:c0d m l)(hm:m≤30000):(b7r l).length≤27027300000010:=by
 have h1:=e5y hv h (by omega);have h2:m*(30+m)≤30000*30030:=Ez hm (by omega);have h3:m*(10+m*(30+m))≤30000*(10+30000*30030):=Ez hm (by omega);omega
theorem f5x{s:CS}{l:CL}{m:Nat}(hs:okCS s)(hl:okCL l)(h:szS m s)(h':szL m l)(hm:m≤30000):(scB s l).length≤1000000000:=by
 have h1:=d3s hs hl h h' (by omega);have h2:m*(30+m)≤30000*30030:=Ez hm (by omega);omega
theorem c3e{l:List CI}{m:Nat}(hv:a7a l)(h:l.length≤m)(hm:m≤30000):(itsB l).length≤2000000:=by
 have h1:=d5x hv h (by omega);omega
theorem e9b{c:CG}{m:Nat}(hv:okCG c)(h:szG m c)(hm:m≤30000):(chB c).length≤100000:=by
 have h1:=d4h hv h (by omega);omega
theorem e1a{a b:Int}(ha:I64 a)(hb:I64 b):(nsB [a,b]).length≤20:=b8w (l:=[a,b]) (by
 intro v hv;simp only[A3,Bo,or_false] at hv;rcases hv with rfl|rfl <;> assumption)
theorem f6w{t:CT}{m:Nat}(hv:okCT t)(h:szT m t)(hm:m≤30000):(stB t).length≤28000000000000:=by
 obtain⟨h1,h2,h3,h4,h5,h6,h7,h8,h9,h10,h11⟩:=hv;obtain⟨s2,s3,s4,s5,s6,s7,s8,s9⟩:=h;unfold stB;simp only[Ac];have g1:=a5e h1;have g2:=f5x h2 h3 s2 s3 hm;have g3:=d3d h4 s4 hm;have g4:=c3e h5 s5 hm;have g5:(flB t.2.2.2.2.2.1).length≤10:=a5e (by split <;> exact⟨by decide,by decide⟩);have g6:=e9b h6 s6 hm;have g7:=f5x h7 h8 s7 s8 hm;have g8:=c3e h9 s9 hm;have g9:=e1a h10 h11;omega
theorem e8b{r:CR}{m:Nat}(hv:okCR r)(h:szR m r)(hm:m≤30000):(recB r).length≤29000000000000:=by
 obtain⟨h1,h2,h3,h4,h5,h6,h7⟩:=hv;obtain⟨s2,s3,s5,s6,s7⟩:=h;unfold recB;rw[Ac];have g1:=a5e h1;have g2:=f6w h2 s2 hm;have g3:=d3d h3 s3 hm;have g4:=a5e h4;have g5:=c3e h5 s5 hm;have g6:=c3e h6 s6 hm;have g7:=e9b h7 s7 hm;split
 ·omega
 split
 ·omega
 split
 ·simp only[Ac];omega
 split
 ·omega
 split
 ·omega
 ·simp only[A0];omega
theorem f9m{r:CR}{m:Nat}(hv:okCR r)(h:szR m r)(hm:m≤30000):(allB r).length≤60000000000000:=by
 obtain⟨h1,h2,h3,h4,h5,h6,h7⟩:=hv;obtain⟨s2,s3,s5,s6,s7⟩:=h;unfold allB;simp only[Ac];have g1:=e1a h1 h4;have g2:=f6w h2 s2 hm;have g3:=d3d h3 s3 hm;have g5:=c3e h5 s5 hm;have g6:=c3e h6 s6 hm;have g7:=e9b h7 s7 hm;omega
def g3s(b:List Int)(y:(CR×UV×Unit)×Unit):Prop :=
 (∃r,y=((r,UV.nil,()),())∧okCR r∧szR b.length r∧recB r=b)∨∃s,y=((zR,UV.node a9z (.pair (.str s) (.pair (UV.sent a2n) .unit)),()),())
theorem f4q{n:Nat}{b:List Int}(hb:a1v b)(hl:b.length≤30000)(hn:30000000000000≤n)(hr:n≤140737488355328):Gets (a9x n (b,())) (g3s b):=by
 have hro:=a4t;unfold a9x;dsimp only;refine Gets.bind (b2m hb (by omega) (by omega)) ?_;rintro _ ⟨v1,c1,t1,rfl,g1,f1⟩;dsimp only;have e1:=f1.2;refine Gets.join (fun s=>okCR s.1∧szR b.length s.1) ?_ ?_
 ·rintro⟨r,c,t,u⟩ ⟨hr1,hr2⟩;dsimp only;have hf:(recB r).length≤29000000000000:=e8b hr1 hr2 hl;rw[d4j hr1 (by simp only[A0];omega) hr];simp only[Ab,B5];refine Gets.ite (fun _=>Gets.some (.inr ⟨_,rfl⟩)) fun _=>?_
  unfold a2m;simp only[Ab];refine Gets.not (fun h=>Gets.some (.inr ⟨_,rfl⟩)) fun h=>Gets.some (.inl ⟨r,rfl,hr1,hr2,?_⟩)
  exact of_decide_eq_true h
 intro J hJ;refine Gets.dec (fun _=>?_) fun _=>?_
 ·refine Gets.bind (f8p f1.1 (by omega) (by omega)) ?_;rintro _ ⟨v2,c2,t2,rfl,⟨g2,k2⟩,f2⟩;exact hJ _ ⟨⟨g1,g2,c0x,a1a,a5i,a5i,okG0⟩,⟨k2.1.le e1,k2.2.1.le e1,k2.2.2.1.le e1,AM k2.2.2.2.1 e1,k2.2.2.2.2.1.le e1,k2.2.2.2.2.2.1.le e1,k2.2.2.2.2.2.2.1.le e1,AM k2.2.2.2.2.2.2.2 e1⟩,c1b,A8 _,A8 _,szG0⟩
 refine Gets.dec (fun _=>?_) fun _=>?_
 ·refine Gets.bind (f6i f1.1 (by omega) (by omega)) ?_;rintro _ ⟨v2,c2,t2,rfl,⟨g2,k2⟩,f2⟩;exact hJ _ ⟨⟨g1,okT0,g2,a1a,a5i,a5i,okG0⟩,szT0,k2.le e1,A8 _,A8 _,szG0⟩
 refine Gets.dec (fun _=>?_) fun _=>?_
 ·refine Gets.bind (b2m f1.1 (by omega) (by omega)) ?_;rintro _ ⟨v2,c2,t2,rfl,g2,f2⟩;dsimp only;have e2:=f2.2;refine Gets.bind (c8z f2.1 (by omega) (by omega)) ?_;rintro _ ⟨v3,c3,t3,rfl,⟨g3,k3⟩,f3⟩;dsimp only;have e3:=f3.2;refine Gets.bind (c8z f3.1 (by omega) (by omega)) ?_;rintro _ ⟨v4,c4,t4,rfl,⟨g4,k4⟩,f4⟩;exact hJ _ ⟨⟨g1,okT0,c0x,g2,g4,g3,okG0⟩,szT0,c1b,(show v4.length≤_ by omega),(show v3.length≤_ by omega),szG0⟩
 refine Gets.dec (fun _=>?_) fun _=>?_
 ·refine Gets.bind (c8z f1.1 (by omega) (by omega)) ?_;rintro _ ⟨v3,c3,t3,rfl,⟨g3,k3⟩,f3⟩;exact hJ _ ⟨⟨g1,okT0,c0x,a1a,g3,a5i,okG0⟩,szT0,c1b,(show v3.length≤_ by omega),A8 _,szG0⟩
 refine Gets.dec (fun _=>?_) fun _=>?_
 ·refine Gets.bind (e1y f1.1 (by omega) (by omega)) ?_;rintro _ ⟨v3,c3,t3,rfl,⟨g3,k3⟩,f3⟩;exact hJ _ ⟨⟨g1,okT0,c0x,a1a,a5i,a5i,g3⟩,szT0,c1b,A8 _,A8 _,k3.le e1⟩
 refine Gets.dec (fun _=>?_) fun _=>?_
 ·exact hJ _ ⟨⟨g1,okT0,c0x,a1a,a5i,a5i,okG0⟩,szT0,c1b,A8 _,A8 _,szG0⟩
 refine Gets.dec (fun _=>?_) fun _=>?_
 ·exact hJ _ ⟨⟨g1,okT0,c0x,a1a,a5i,a5i,okG0⟩,szT0,c1b,A8 _,A8 _,szG0⟩
 ·exact Gets.some (.inr ⟨_,rfl⟩)
def g4e(n:Nat)(b:List Int)(y:(CR×Int×Unit)×Unit):Prop :=
 (∃r,y=((r,0,()),())∧b0n n (r,())=some ((b,()),()))∨y=((zR,2,()),())
theorem f6f{n m:Nat}{r:CR}(hk:okCR r)(hz:szR m r)(hm:m≤30000)(hn:70000000000000≤n)(hr:n≤140737488355328)(h:a9x n (recB r,())=some ((r,UV.nil,()),())) :
  b0n n (r,())=some ((recB r,()),()):=by
 have hf:=e8b hk hz hm;have ha:=f9m hk hz hm;unfold b0n;dsimp only;rw[d4j hk (by simp only[A0];omega) hr];simp only[Ab,B5];rw[h];simp only[Ab];rw[if_neg (by simp),f9g hk (by omega) hr];simp only[Ab];unfold a2m;simp only[Ab];rw[if_neg (by simp)]
theorem f3p{n:Nat}{b:List Int}(hb:a1v b)(hl:b.length≤30000)(hn:70000000000000≤n)(hr:n≤140737488355328):Gets (b3c n (b,())) (g4e n b):=by
 obtain⟨y,h1,h2⟩:=f4q hb hl (n:=n) (by omega) hr;unfold b3c a2k a2s;dsimp only;simp only[Ab];rw[h1];simp only[Ab];rcases h2 with⟨r,rfl,hk,hz,rfl⟩|⟨s,rfl⟩
 ·exact⟨_,rfl,.inl ⟨r,rfl,f6f hk hz hl hn hr h1⟩⟩
 ·exact⟨_,rfl,.inr rfl⟩
end Go.Rb.R7

namespace Go.Rb.R7
open Go.Rb
def Hd(b:List Int):Prop:=a1v b∧b.length<1000000
theorem Hd.right{a b:List Int}(h:Hd (a++b)):Hd b:=⟨fun x hx=>h.1 x (List.mem_append_right _ hx),by have:=h.2;rw[Ac] at this;omega⟩
theorem f6h{n:Nat}{v:Int}{rest:List Int}{u:Unit}(hv:I64 v)(h:Hd (nB v++rest))(hn:11≤n):a3i n ((nB v++rest,false,u),())=some ((v,()),((rest,false,u),())):=by
 unfold a3i;dsimp only;have hz:=e1w hv.1 hv.2;rw[c1v h.1 h.2 hn];have ht:b3n (nB v++rest)=some (zig v,(nB v).length):=e8u _ _ hz;rw[ht];simp only[Ab];rw[if_neg (by simp),if_neg (by simp),if_pos (by rw[Ac];omega),c4x hz];simp only[Ab];rw[Ah,Ah,AL,FO,f7p]
theorem a9r{n:Nat}{v:Int}{rest:List Int}{u:Unit}(hv:I64 v)(h:Hd (nB v++rest))(hn:11≤n):a0b n ((nB v++rest,false,u),())=some ((v,()),((rest,false,u),())):=by
 unfold a0b;dsimp only;rw[f6h hv h hn];rfl
theorem d2m{n k:Nat}{rest:List Int}{u:Unit}(hk:k≤rest.length)(h:Hd (nB (k:Int)++rest))(hn:11≤n):a1q n ((nB (k:Int)++rest,false,u),())=some (((k:Int),()),((rest,false,u),())):=by
 unfold a1q;dsimp only;have:=h.right.2;rw[a9r (d3p (by omega)) h hn];simp only[Ab];rw[if_neg (by rw[decide_eq_true_eq];omega),if_neg (by rw[decide_eq_true_eq];omega)]
theorem e9v{n:Nat}{s rest:List Int}{u:Unit}(h:Hd (txB s++rest))(hn:11≤n):a2v n ((txB s++rest,false,u),())=some ((s,()),((rest,false,u),())):=by
 unfold txB at h ⊢;rw[Ae] at h ⊢;unfold a2v;dsimp only;rw[d2m (by rw[Ac];omega) h hn];simp only[Ab];rw[if_pos (by rw[Ac];omega),if_pos (by rw[Ac];omega)];simp only[Ah,AL,List.take_left,FO];rfl
theorem e8j{n:Nat}{v:CV}{rest:List Int}{u:Unit}(hv:okCV v)(h:Hd (vB v++rest))(hn:11≤n):a3d n ((vB v++rest,false,u),())=some ((v,()),((rest,false,u),())):=by
 unfold vB at h ⊢;simp only[Ae] at h ⊢;unfold a3d;dsimp only;rw[a9r hv.1 h hn];simp only[Ab];rw[f6h hv.2 h.right hn];simp only[Ab];rw[e9v h.right.right hn];rfl
theorem a9g{α:Type}(f:α→List Int){l:List α}{i:Nat}(h:i<l.length):(l.drop i).flatMap f=f l[i]++(l.drop (i+1)).flatMap f:=by
 rw[List.drop_eq_getElem_cons h,D0]
theorem b5t{α:Type}{l:List α}{i:Nat}(h:i<l.length):l.take i++[l[i]]=l.take (i+1):=by
 simp
theorem c9v{α:Type}(f:α→List Int){l:List α}{rest:List Int}(h:Hd (l.flatMap f++rest))(i:Nat):Hd ((l.drop i).flatMap f++rest):=by
 have h':=h;rw[←Bw i l,EQ,Ae] at h';exact h'.right
theorem f6m{n:Nat}{l:List (List CV)}{rest:List Int}{u:Unit}(hl:c0g l)(h:Hd (b7r l++rest))(hn:1000001≤n):a3j n ((b7r l++rest,false,u),())=some ((l,()),((rest,false,u),())):=by
 have hro:=a4t;have hll:=a8n e3a l;unfold b7r at h ⊢;rw[Ae] at h ⊢;have hh:=h.right;have hs:=hh.2;rw[Ac] at hs;unfold a3j;dsimp only;rw[d2m (by rw[Ac];omega) h (by omega)];simp only[Ab];refine a4b (r:=some ((l,()),((rest,false,u),()))) (fun i=>(((l.drop i).flatMap rowB++rest,false,u),l.take i,(i:Int))) l.length (by simp) ?_ ?_ (by omega)
 ·intro rec i hi;have h1:=c9v rowB hh i;have hb:rowB l[i]=nB (l[i].length:Int)++l[i].flatMap vB:=rfl;have hvl:=a8n f5y l[i];rw[a9g rowB hi,hb,Ae,Ae] at h1;have h2:=h1.right;have h3:=h2.2;rw[Ac] at h3;dsimp only;rw[if_pos (by rw[decide_eq_true_eq];omega),a9g rowB hi,hb,Ae,Ae,d2m (by rw[Ac];omega) h1 (by omega)];simp only[Ab];refine a4b (r:=rec (((l.drop (i+1)).flatMap rowB++rest,false,u),l.take (i+1),((i+1:Nat):Int))) (fun j=>(((l[i].drop j).flatMap vB++((l.drop (i+1)).flatMap rowB++rest),false,u),l[i].take j,(j:Int))) l[i].length (by simp) ?_ ?_ (by omega)
  ·intro rec2 j hj;have g1:=c9v vB h2 j;rw[a9g vB hj,Ae] at g1;dsimp only;rw[if_pos (by rw[decide_eq_true_eq];omega),a9g vB hj,Ae,e8j (hl _ (A1 hi) _ (A1 hj)) g1 (by omega)];simp only[Ab];rw[if_pos (by rw[A7,Av];omega),a0d (by omega),b5t hj]
  ·intro rec2;dsimp only;rw[if_neg (by rw[decide_eq_true_eq];omega),BL,AL,if_pos (by rw[A7,Av];omega),a0d (by omega),b5t hi];rfl
 ·intro rec;dsimp only;rw[if_neg (by rw[decide_eq_true_eq];omega),BL,AL];rfl
theorem c8n{n:Nat}{l:List CI}{rest:List Int}{u:Unit}(hl:a7a l)(h:Hd (itsB l++rest))(hn:1000001≤n):a1r n ((itsB l++rest,false,u),())=some ((l,()),((rest,false,u),())):=by
 have hro:=a4t;have hll:=a8n f0y l;unfold itsB at h ⊢;rw[Ae] at h ⊢;have hh:=h.right;have hs:=hh.2;rw[Ac] at hs;unfold a1r;dsimp only;rw[d2m (by rw[Ac];omega) h (by omega)];simp only[Ab];refine a4b (r:=some ((l,()),((rest,false,u),()))) (fun i=>(((l.drop i).flatMap itB++rest,false,u),l.take i,(i:Int))) l.length (by simp) ?_ ?_ (by omega)
 ·intro rec i hi;obtain⟨a1,a2,a3,a4,a5⟩:=hl _ (A1 hi);have h1:=c9v itB hh i;have hb:itB l[i]=nB l[i].1.1++(nB l[i].1.2.1++(nB l[i].2.1++(nB l[i].2.2.1++nB l[i].2.2.2.1))):=by simp[itB,nsB]
  rw[a9g itB hi,hb] at h1;simp only[Ae] at h1;dsimp only;rw[if_pos (by rw[decide_eq_true_eq];omega),a9g itB hi,hb];simp only[Ae];rw[a9r a1 h1 (by omega)];simp only[Ab];rw[a9r a2 h1.right (by omega)];simp only[Ab];rw[a9r a3 h1.right.right (by omega)];simp only[Ab];rw[a9r a4 h1.right.right.right (by omega)];simp only[Ab];rw[a9r a5 h1.right.right.right.right (by omega)];simp only[Ab];rw[if_pos (by rw[A7,Av];omega),a0d (by omega),←b5t hi]
 ·intro rec;dsimp only;rw[if_neg (by rw[decide_eq_true_eq];omega),BL,AL];rfl
theorem e3x{n:Nat}{c:CG}{rest:List Int}{u:Unit}(hc:okCG c)(h:Hd (chB c++rest))(hn:11≤n):a2u n ((chB c++rest,false,u),())=some ((c,()),((rest,false,u),())):=by
 obtain⟨c1,c2,c3,c4,c5,c6⟩:=hc;have hb:chB c=nB c.1++(nB c.2.1++(nB c.2.2.2.1++(nB c.2.2.2.2.2.1++(nB c.2.2.2.2.2.2.1++(txB c.2.2.1++vB c.2.2.2.2.1))))):=by simp[chB,nsB]
 rw[hb] at h ⊢;simp only[Ae] at h ⊢;unfold a2u;dsimp only;rw[a9r c1 h hn];simp only[Ab];rw[a9r c2 h.right hn];simp only[Ab];rw[a9r c3 h.right.right hn];simp only[Ab];rw[a9r ⟨by omega,by omega⟩ h.right.right.right hn];simp only[Ab];rw[a9r c6 h.right.right.right.right hn];simp only[Ab];rw[e9v h.right.right.right.right.right hn];simp only[Ab];rw[e8j c4 h.right.right.right.right.right.right hn];simp only[Ab];rw[c7n,Int.emod_eq_of_lt c5.1 (by omega)]
theorem e1u{n:Nat}{s:CS}{l:CL}{rest:List Int}{u:Unit}(hs:okCS s)(hl:okCL l)(h:Hd (scB s l++rest))(hn:1000001≤n):a2t n ((scB s l++rest,false,u),())=some ((s,l,()),((rest,false,u),())):=by
 have hro:=a4t;have hll:=a8n e8w s.1;have hle:=a8n c4w l.2.2.2.1;have hb:scB s l++rest=nB (s.1.length:Int)++(s.1.flatMap clB++(nB s.2.1++(nB l.1++(nB l.2.1++(nB l.2.2.1++(nB (l.2.2.2.1.length:Int)++(l.2.2.2.1.flatMap nB++rest))))))):=by simp[scB,nsB]
 rw[hb] at h ⊢;have hh:=h.right;have hss:=hh.2;rw[Ac] at hss;unfold a2t;dsimp only;rw[d2m (by rw[Ac];omega) h (by omega)];simp only[Ab];refine a4b (r:=some ((s,l,()),((rest,false,u),()))) (fun i=>(((s.1.drop i).flatMap clB++(nB s.2.1++(nB l.1++(nB l.2.1++(nB l.2.2.1++(nB (l.2.2.2.1.length:Int)++(l.2.2.2.1.flatMap nB++rest)))))),false,u),(s.1.take i,0,()),(i:Int))) s.1.length (by simp) ?_ ?_ (by omega)
 ·intro rec i hi;obtain⟨a1,a2⟩:=hs.1 _ (A1 hi);have h1:=c9v clB hh i;have hb:clB s.1[i]=nB s.1[i].1++(nB s.1[i].2.2.1++txB s.1[i].2.1):=by simp[clB,nsB]
  rw[a9g clB hi,hb] at h1;simp only[Ae] at h1;dsimp only;rw[if_pos (by rw[decide_eq_true_eq];omega),a9g clB hi,hb];simp only[Ae];rw[a9r a1 h1 (by omega)];simp only[Ab];rw[a9r a2 h1.right (by omega)];simp only[Ab];rw[e9v h1.right.right (by omega)];simp only[Ab];rw[if_pos (by rw[A7,Av];omega),a0d (by omega),←b5t hi]
 ·intro rec;have h1:=hh.right;have h2:=h1.right.right.right.right.right;have h3:=h2.2;rw[Ac] at h3;dsimp only;rw[if_neg (by rw[decide_eq_true_eq];omega),BL,AL];simp only[List.flatMap_nil,B5];rw[a9r hs.2 h1 (by omega)];simp only[Ab];rw[a9r hl.1 h1.right (by omega)];simp only[Ab];rw[a9r hl.2.1 h1.right.right (by omega)];simp only[Ab];rw[a9r hl.2.2.1 h1.right.right.right (by omega)];simp only[Ab];rw[d2m (by rw[Ac];omega) h1.right.right.right.right (by omega)];simp only[Ab];refine a4b (r:=some ((s,l,()),((rest,false,u),()))) (fun j=>(((l.2.2.2.1.drop j).flatMap nB++rest,false,u),(l.1,l.2.1,l.2.2.1,l.2.2.2.1.take j,()),(j:Int))) l.2.2.2.1.length (by simp) ?_ ?_ (by omega)
  ·intro rec2 j hj;have g1:=c9v nB h2 j;rw[a9g nB hj,Ae] at g1;dsimp only;rw[if_pos (by rw[decide_eq_true_eq];omega),a9g nB hj,Ae,a9r (hl.2.2.2 _ (A1 hj)) g1 (by omega)];simp only[Ab];rw[if_pos (by rw[A7,Av];omega),a0d (by omega),b5t hj]
  ·intro rec2;dsimp only;rw[if_neg (by rw[decide_eq_true_eq];omega),BL,AL];rfl
end Go.Rb.R7

namespace Go.Rb.R7
open Go.Rb
theorem a1v.app{a b:List Int}(ha:a1v a)(hb:a1v b):a1v (a++b):=fun x hx=>by
 rcases Aq.1 hx with h|h
 ·exact ha x h
 ·exact hb x h
theorem a1v.nil:a1v []:=fun x hx=>by cases hx
theorem a1v.flat{α:Type}{f:α→List Int}{l:List α}(h:∀x,x∈l→a1v (f x)):a1v (l.flatMap f):=fun x hx=>by
 obtain⟨y,hy,hx⟩:=List.mem_flatMap.1 hx;exact h y hy x hx
theorem c5q(v:Int):a1v (nB v):=fun x hx=>f7n _ x hx
theorem d1m(l:List Int):a1v (nsB l):=a1v.flat fun v _=>c5q v
theorem f1s{s:List Int}(h:a1v s):a1v (txB s):=(c5q _).app h
def byV(v:CV):Prop:=a1v v.2.2.1
def g3i(r:List CV):Prop:=∀v,v∈r→byV v
def e2k(l:List (List CV)):Prop:=∀r,r∈l→g3i r
def byG(c:CG):Prop:=a1v c.2.2.1∧byV c.2.2.2.2.1
def byS(s:CS):Prop:=∀c,c∈s.1→a1v c.2.1
def byT(t:CT):Prop:=byS t.2.1∧e2k t.2.2.2.1∧byG t.2.2.2.2.2.2.1∧byS t.2.2.2.2.2.2.2.1
def byR(r:CR):Prop:=byT r.2.1∧e2k r.2.2.1∧byG r.2.2.2.2.2.2.1
theorem g2n{v:CV}(h:byV v):a1v (vB v):=(c5q _).app ((c5q _).app (f1s h))
theorem e3u{l:List (List CV)}(h:e2k l):a1v (b7r l):=(c5q _).app (a1v.flat fun r hr=>(c5q _).app (a1v.flat fun v hv=>g2n (h r hr v hv)))
theorem c9i(l:List CI):a1v (itsB l):=(c5q _).app (a1v.flat fun _ _=>d1m _)
theorem f6r{c:CG}(h:byG c):a1v (chB c):=(d1m _).app ((f1s h.1).app (g2n h.2))
theorem f6o{s:CS}{l:CL}(h:byS s):a1v (scB s l):=(c5q _).app ((a1v.flat fun c hc=>(d1m _).app (f1s (h c hc))).app ((d1m _).app (d1m _)))
theorem g0g{t:CT}(h:byT t):a1v (stB t) :=
 (c5q _).app ((f6o h.1).app ((e3u h.2.1).app ((c9i _).app ((c5q _).app ((f6r h.2.2.1).app ((f6o h.2.2.2).app ((c9i _).app (d1m _))))))))
theorem e8c{r:CR}(h:byR r):a1v (recB r):=by
 unfold recB;refine(c5q _).app ?_;split
 ·exact g0g h.1
 split
 ·exact e3u h.2.1
 split
 ·exact(c5q _).app ((c9i _).app (c9i _))
 split
 ·exact c9i _
 split
 ·exact f6r h.2.2
 ·exact a1v.nil
theorem f8c{n:Nat}{t:CT}{rest:List Int}{u:Unit}(ht:okCT t)(h:Hd (stB t++rest))(hn:1000001≤n):a3y n ((stB t++rest,false,u),())=some ((t,()),((rest,false,u),())):=by
 obtain⟨h1,h2,h3,h4,h5,h6,h7,h8,h9,h10,h11⟩:=ht;have hb:stB t++rest=nB t.1++(scB t.2.1 t.2.2.1++(b7r t.2.2.2.1++(itsB t.2.2.2.2.1++(nB (if t.2.2.2.2.2.1=true then 1 else 0)++(chB t.2.2.2.2.2.2.1++(scB t.2.2.2.2.2.2.2.1 t.2.2.2.2.2.2.2.2.1++(itsB t.2.2.2.2.2.2.2.2.2.1++(nB t.2.2.2.2.2.2.2.2.2.2.1++(nB t.2.2.2.2.2.2.2.2.2.2.2.1++rest))))))))):=by simp[stB,flB,nsB]
 rw[hb] at h ⊢;unfold a3y;dsimp only;rw[a9r h1 h (by omega)];simp only[Ab];have k1:=h.right;rw[e1u h2 h3 k1 hn];simp only[Ab];have k2:=k1.right;rw[f6m h4 k2 hn];simp only[Ab];have k3:=k2.right;rw[c8n h5 k3 hn];simp only[Ab];have k4:=k3.right;rw[a9r (by split <;> exact⟨by decide,by decide⟩) k4 (by omega)];simp only[Ab];have k5:=k4.right;rw[e3x h6 k5 (by omega)];simp only[Ab];have k6:=k5.right;rw[e1u h7 h8 k6 hn];simp only[Ab];have k7:=k6.right;rw[c8n h9 k7 hn];simp only[Ab];have k8:=k7.right;rw[a9r h10 k8 (by omega)];simp only[Ab];have k9:=k8.right;rw[a9r h11 k9 (by omega)];simp only[Ab];have hf:decide ((if t.2.2.2.2.2.1=true then(1:Int) else 0)=1)=t.2.2.2.2.2.1:=by
  cases t.2.2.2.2.2.1 <;> rfl
 rw[hf]
inductive Clean:CR→Prop
 |all (t:CT):Clean (1,t,[],0,[],[],zG,())
 |fresh (l:List (List CV)):Clean (2,zT,l,0,[],[],zG,())
 |flushed (k:Int) (a b:List CI):Clean (3,zT,[],k,a,b,zG,())
 |begun (c:CG):Clean (4,zT,[],0,[],[],c,())
 |moved (a:List CI):Clean (5,zT,[],0,a,[],zG,())
 |cut:Clean (6,zT,[],0,[],[],zG,())
 |undone:Clean (7,zT,[],0,[],[],zG,())
theorem f5r{n:Nat}{r:CR}(hc:Clean r)(hk:okCR r)(h:Hd (recB r))(hn:1000020≤n)(hr:n≤140737488355328):a9x n (recB r,())=some ((r,UV.nil,()),()):=by
 have hw:a3o n (([],()),r,())=some ((),((recB r,()),())):=by
  have:=d4j (n:=n) (w:=[]) (u:=()) hk (by have:=h.2;simp only[A0];omega) hr;simpa using this
 have hl:=h.2;obtain⟨h1,h2,h3,h4,h5,h6,h7⟩:=hk;unfold a9x a7w;dsimp only;cases hc with
 |all t =>
  have hb:recB (1,t,[],0,[],[],zG,())=nB 1++(stB t++[]):=by simp[recB]
  rw[hb] at h hw ⊢;rw[a9r ⟨by decide,by decide⟩ h (by omega)];simp only[Ab];rw[if_pos (by decide),f8c h2 h.right (by omega)];simp only[Ab];rw[hw];simp[a2m]
 |fresh l =>
  have hb:recB (2,zT,l,0,[],[],zG,())=nB 2++(b7r l++[]):=by simp[recB]
  rw[hb] at h hw ⊢;rw[a9r ⟨by decide,by decide⟩ h (by omega)];simp only[Ab];rw[if_neg (by simp),if_pos (by decide),f6m h3 h.right (by omega)];simp only[Ab];rw[hw];simp[a2m]
 |flushed k a b =>
  have hb:recB (3,zT,[],k,a,b,zG,())=nB 3++(nB k++(itsB b++(itsB a++[]))):=by simp[recB]
  rw[hb] at h hw ⊢;rw[a9r ⟨by decide,by decide⟩ h (by omega)];simp only[Ab];rw[if_neg (by simp),if_neg (by simp),if_pos (by decide),a9r h4 h.right (by omega)];simp only[Ab];rw[c8n h6 h.right.right (by omega)];simp only[Ab];rw[c8n h5 h.right.right.right (by omega)];simp only[Ab];rw[hw];simp[a2m]
 |begun c =>
  have hb:recB (4,zT,[],0,[],[],c,())=nB 4++(chB c++[]):=by simp[recB]
  rw[hb] at h hw ⊢;rw[a9r ⟨by decide,by decide⟩ h (by omega)];simp only[Ab];rw[if_neg (by simp),if_neg (by simp),if_neg (by simp),if_neg (by simp),if_pos (by decide),e3x h7 h.right (by omega)];simp only[Ab];rw[hw];simp[a2m]
 |moved a =>
  have hb:recB (5,zT,[],0,a,[],zG,())=nB 5++(itsB a++[]):=by simp[recB]
  rw[hb] at h hw ⊢;rw[a9r ⟨by decide,by decide⟩ h (by omega)];simp only[Ab];rw[if_neg (by simp),if_neg (by simp),if_neg (by simp),if_pos (by decide),c8n h5 h.right (by omega)];simp only[Ab];rw[hw];simp[a2m]
 |cut =>
  have hb:recB (6,zT,[],0,[],[],zG,())=nB 6++[]:=by simp[recB]
  rw[hb] at h hw ⊢;rw[a9r ⟨by decide,by decide⟩ h (by omega)];simp only[Ab];rw[if_neg (by simp),if_neg (by simp),if_neg (by simp),if_neg (by simp),if_neg (by simp),if_pos (by decide),hw];simp[a2m]
 |undone =>
  have hb:recB (7,zT,[],0,[],[],zG,())=nB 7++[]:=by simp[recB]
  rw[hb] at h hw ⊢;rw[a9r ⟨by decide,by decide⟩ h (by omega)];simp only[Ab];rw[if_neg (by simp),if_neg (by simp),if_neg (by simp),if_neg (by simp),if_neg (by simp),if_neg (by simp),if_pos (by decide),hw];simp[a2m]
theorem f4s{n:Nat}{r:CR}(hc:Clean r)(hk:okCR r)(hz:szR 100 r)(hb:byR r)(hs:(recB r).length<1000000)(hn:70000000000000≤n)(hr:n≤140737488355328):b0n n (r,())=some ((recB r,()),()) :=
 f6f hk hz (by omega) hn hr (f5r hc hk ⟨e8c hb,hs⟩ (by omega) hr)
end Go.Rb.R7
