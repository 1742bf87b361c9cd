/- Plain laws: the document's states (alike, items). Own work. -/
import Derived.Test.YthkgkalebkbndaaGreatDoorLawE
import Derived.Test.YthkgkalebkbndaaGreatDoorLawD
import Derived.KernelRfl
import Derived.Test.YthkgkalebkbndaaGreatDoorRbI
set_option autoImplicit false
set_option linter.unusedVariables false
set_option linter.unusedSimpArgs false
open Bool renaming and_eq_true->Af,eq_false_iff->BA,eq_iff_iff->Ev,false_eq_true->AJ,not_true->C2,true_and->FW
open Classical renaming byContradiction->C8
open Go.IntKind renaming i64->Aa
open Go.Proofs renaming ltOf->CX
open Int renaming natCast_nonneg->AW,toNat_natCast->Ah,toNat_zero->Cu
open List renaming drop_zero->FP,ext_getElem->Eg,find?->Dd,find?_cons->Eu,getD_cons_zero->ER,getElem_mem->A1,getElem_of_mem->Bf,length_append->Ac,length_cons->Bd,length_drop->B8,length_map->Ce,length_nil->A0,length_set->Bx,length_singleton->Av,length_take->A7,mem_append->Aq,nil_append->B5,pairwise_iff_getElem->BG,take_length->AL,take_succ_eq_append_getElem->D1,take_zero->Dj
open Nat renaming le_refl->Ar
open Option renaming bind_some->Ab
namespace Go.Rb.R7
open Go.Rb
theorem f2o{l m:List Int}(h:l.length=m.length):(allN l.length fun i=>decide (l.getD i 0=m.getD i 0))=decide (l=m):=by
 rw[Ev,a5y,decide_eq_true_eq];constructor
 ·intro hh;refine Eg h fun i h1 h2=>?_
  have:=hh i h1;rw[decide_eq_true_eq,a0h h1,a0h h2] at this;exact this
 ·rintro rfl i _;simp
theorem b3p{n:Nat}{l m:List Int}(hn:l.length<n)(hc:l.length≤1000000):a3z n (l,m,())=some ((decide (l=m),()),()):=by
 unfold a3z;dsimp only;by_cases h:l.length=m.length
 ·have h1:(l.length:Int)=(m.length:Int):=by omega
  rw[if_neg (by simp[h1]),a9k l.length (fun i=>decide (l.getD i 0=m.getD i 0)) ((false,()),()) ((true,()),()) hn]
  ·rw[f2o h];by_cases hl:l=m <;> simp[hl]
  ·intro rec i hi;have h2:(i:Int)<l.length:=by omega
   have h3:(i:Int)<m.length:=by omega
   by_cases hv:l.getD i 0=m.getD i 0 <;> simp[h2,h3,atI,hv,a0d (show i<9223372036854775807 by omega)]
  ·intro rec;simp
 ·have h1:¬(l.length:Int)=(m.length:Int):=by omega
  have h2:¬l=m:=fun e=>h (by rw[e])
  simp[h1,h2]
theorem b1u{n:Nat}{l m:Lay}(hn:l.2.2.2.1.length<n)(hc:l.2.2.2.1.length≤1000000):a2e n (l,m,())=some ((decide (l=m),()),()):=by
 obtain⟨a,b,c,e,u⟩:=l;obtain⟨a',b',c',e',u'⟩:=m;unfold a2e;dsimp only at *;rw[b3p hn hc];by_cases h1:a=a' <;> by_cases h2:b=b' <;> by_cases h3:c=c' <;> by_cases h4:e=e' <;> simp[h1,h2,h3,h4]
theorem f3w{R:Type}(x y:Cl)(no go:R):(if(!(decide (x.1=y.1)&&(decide (x.2.1=y.2.1)&&decide (x.2.2.1=y.2.2.1))))=true then no else go)=if decide (x=y)=true then go else no:=by
 obtain⟨x1,x2,x3,x4⟩:=x;obtain⟨y1,y2,y3,y4⟩:=y;by_cases q1:x1=y1 <;> by_cases q2:x2=y2 <;> by_cases q3:x3=y3 <;> simp[q1,q2,q3]
theorem a7r{n:Nat}{s t:Sch}(hn:s.1.length<n)(hc:s.1.length≤1000000):a1s n (s,t,())=some ((decide (s=t),()),()):=by
 obtain⟨l,a,u⟩:=s;obtain⟨m,b,v⟩:=t;unfold a1s;dsimp only at *;by_cases hab:a=b
 ·rw[if_neg (by simp[hab])];by_cases h:l.length=m.length
  ·have h1:(l.length:Int)=(m.length:Int):=by omega
   rw[if_neg (by simp[h1]),a9k l.length (fun i=>decide (l.getD i k0=m.getD i k0)) ((false,()),()) ((true,()),()) hn]
   ·have e:(allN l.length fun i=>decide (l.getD i k0=m.getD i k0))=decide (l=m):=by
     rw[Ev,a5y,decide_eq_true_eq];constructor
     ·intro hh;refine Eg h fun i h1 h2=>?_
      have:=hh i h1;rw[decide_eq_true_eq,a0h h1,a0h h2] at this;exact this
     ·rintro rfl i _;simp
    rw[e];by_cases hl:l=m <;> simp[hl,hab]
   ·intro rec i hi;have h2:(i:Int)<l.length:=by omega
    have h3:(i:Int)<m.length:=by omega
    simp only[h2,h3,atI,a0d (show i<9223372036854775807 by omega),decide_true,if_true,Ah,and_self,AW];exact f3w (l.getD i k0) (m.getD i k0) _ _
   ·intro rec;simp
  ·have h1:¬(l.length:Int)=(m.length:Int):=by omega
   have h2:¬l=m:=fun e=>h (by rw[e])
   simp[h1,h2]
 ·simp[hab]
def ItOK(i:CI):Prop:=1≤i.1.1∧1≤i.1.2.1∧i.1.2.1≤1048576∧i.1.1≤1048576∧1≤i.2.1∧i.2.1≤i.1.2.1*128∧1≤i.2.2.1∧i.2.2.1≤16∧0≤i.2.2.2.1∧i.2.2.2.1<4
instance (i:CI):Decidable (ItOK i):=by unfold ItOK;infer_instance
abbrev i0:CI:=((0,0,()),0,0,0,())
def b9x(l:List CI):Bool:=(allN l.length fun i=>decide (ItOK (l.getD i i0)))&&decide (l.length≤60)
theorem e8z{R:Type}(i:CI)(no go:R):(if decide (i.1.1<1)=true then no else if decide (i.1.2.1<1)=true then no else if decide (1048576<i.1.2.1)=true then no else if decide (1048576<i.1.1)=true then no else if decide (i.2.1<1)=true then no else if decide (Aa.wrap (i.1.2.1*128)<i.2.1)=true then no else if decide (i.2.2.1<1)=true then no else if decide (16<i.2.2.1)=true then no else if decide (i.2.2.2.1<0)=true then no else if decide (4≤i.2.2.2.1)=true then no else go)=if decide (ItOK i)=true then go else no:=by
 simp only[decide_eq_true_eq];by_cases h1:i.1.1<1
 ·rw[if_pos h1,if_neg (show ¬ItOK i by unfold ItOK;omega)]
 by_cases h2:i.1.2.1<1
 ·rw[if_neg h1,if_pos h2,if_neg (show ¬ItOK i by unfold ItOK;omega)]
 by_cases h3:1048576<i.1.2.1
 ·rw[if_neg h1,if_neg h2,if_pos h3,if_neg (show ¬ItOK i by unfold ItOK;omega)]
 rw[if_neg h1,if_neg h2,if_neg h3,a0i (by omega) (by omega)];by_cases h4:1048576<i.1.1
 ·rw[if_pos h4,if_neg (show ¬ItOK i by unfold ItOK;omega)]
 by_cases h5:i.2.1<1
 ·rw[if_neg h4,if_pos h5,if_neg (show ¬ItOK i by unfold ItOK;omega)]
 by_cases h6:i.1.2.1*128<i.2.1
 ·rw[if_neg h4,if_neg h5,if_pos h6,if_neg (show ¬ItOK i by unfold ItOK;omega)]
 by_cases h7:i.2.2.1<1
 ·rw[if_neg h4,if_neg h5,if_neg h6,if_pos h7,if_neg (show ¬ItOK i by unfold ItOK;omega)]
 by_cases h8:16<i.2.2.1
 ·rw[if_neg h4,if_neg h5,if_neg h6,if_neg h7,if_pos h8,if_neg (show ¬ItOK i by unfold ItOK;omega)]
 by_cases h9:i.2.2.2.1<0
 ·rw[if_neg h4,if_neg h5,if_neg h6,if_neg h7,if_neg h8,if_pos h9,if_neg (show ¬ItOK i by unfold ItOK;omega)]
 by_cases h10:4≤i.2.2.2.1
 ·rw[if_neg h4,if_neg h5,if_neg h6,if_neg h7,if_neg h8,if_neg h9,if_pos h10,if_neg (show ¬ItOK i by unfold ItOK;omega)]
 ·rw[if_neg h4,if_neg h5,if_neg h6,if_neg h7,if_neg h8,if_neg h9,if_neg h10,if_pos (show ItOK i by unfold ItOK;omega)]
theorem b3w{n:Nat}{l:List CI}(hn:l.length<n)(hc:l.length≤1000000):a7b n (l,())=some ((b9x l,()),()):=by
 unfold a7b b9x;dsimp only;rw[a9k l.length (fun i=>decide (ItOK (l.getD i i0))) ((false,()),()) ((decide ((l.length:Int)≤60),()),()) hn]
 ·have:decide ((l.length:Int)≤60)=decide (l.length≤60):=by
   rw[decide_eq_decide];omega
  rw[this];cases(allN l.length fun i=>decide (ItOK (l.getD i i0))) <;> simp
 ·intro rec i hi;have h2:(i:Int)<l.length:=by omega
  simp only[h2,atI,a0d (show i<9223372036854775807 by omega),decide_true,if_true,Ah,and_self,AW];exact e8z (l.getD i i0) _ _
 ·intro rec;simp
theorem b1v{l:List CI}:b9x l=true↔(∀i,i∈l→ItOK i)∧l.length≤60:=by
 unfold b9x;rw[Af,a5y,decide_eq_true_eq];refine and_congr_left fun _=>⟨fun h i hi=>?_,fun h i hi=>?_⟩
 ·obtain⟨k,hk,rfl⟩:=Bf hi;have:=h k hk;rw[a0h hk,decide_eq_true_eq] at this;exact this
 ·rw[a0h hi,decide_eq_true_eq];exact h _ (A1 hi)
end Go.Rb.R7

namespace Go.Rb.R7
open Go.Rb
set_option maxRecDepth 100000
theorem e7p(k:Nat):a5p (k+1000) ()=some ((true,()),()):=by kernel_rfl
end Go.Rb.R7

namespace Go.Rb.R7
open Go.Rb
abbrev EX:=Int×Int×Unit
abbrev e0:EX:=(0,0,())
def a9a(t:CT):List CI:=t.2.2.2.2.1
def a8e(t:CT):List CI:=t.2.2.2.2.2.2.2.2.2.1
def extB(t:CT):List EX:=(a9a t++a8e t).map (·.1)
theorem c6w{α β:Type}(f:α→β){l:List α}{i:Nat}(h:i<l.length):(l.take i).map f++[f l[i]]=(l.take (i+1)).map f:=by
 rw[D1 h,List.map_append];rfl
theorem b4o{n:Nat}{t:CT}(h1:(a9a t).length≤1000)(h2:(a8e t).length≤1000)(hn:2001≤n):a7s n (t,())=some ((extB t,()),()):=by
 have hro:=a4t;unfold a7s extB;dsimp only;have q1:t.2.2.2.2.1.length≤1000:=h1;have q2:t.2.2.2.2.2.2.2.2.2.1.length≤1000:=h2;rw[if_pos (by simp only[A0];omega),if_pos (by simp only[A0,Ac];omega)];show a1b _ n (([]:List EX),(0:Int))=_;have hE:([]:List CI)++t.2.2.2.2.1++t.2.2.2.2.2.2.2.2.2.1=a9a t++a8e t:=rfl;rw[hE];have hL:(a9a t++a8e t).length≤2000:=by rw[Ac];omega
 generalize a9a t++a8e t=L at hL;refine a4b (fun i=>((L.take i).map (·.1),(i:Int))) L.length (by rw[Dj];rfl) ?_ ?_ (by omega)
 ·intro rec i hi;dsimp only;rw[if_pos (by rw[decide_eq_true_eq];omega),a3b hi,Ah,a8y hi,if_pos (by simp only[Ce,A7,Av];omega),a0d (by omega),c6w (fun x:CI=>x.1) hi]
 ·intro rec;dsimp only;rw[if_neg (by rw[decide_eq_true_eq];omega),AL]
def d3w(a b:EX):Bool:=decide (a.1<Aa.wrap (b.1+b.2.1))&&decide (b.1<Aa.wrap (a.1+a.2.1))
def c2h(e:List EX):Bool:=anyN e.length fun i=>anyN i fun k=>d3w (e.getD i e0) (e.getD k e0)
def e5s(c:CG):Bool:=(decide (c.1=0))&&((decide (c.2.1=0))&&((decide (c.2.2.1=[]))&&((decide (c.2.2.2.1=0))&&(((decide (c.2.2.2.2.1.1=0))&&((decide (c.2.2.2.2.1.2.1=0))&&(decide (c.2.2.2.2.1.2.2.1=[]))))&&((decide (c.2.2.2.2.2.1=0))&&(decide (c.2.2.2.2.2.2.1=0)))))))
def wayT:CT→Bool
 |(_,s,l,_,segs,busy,c,ns,nl,next,todo,done,_)=>match busy with
  |true=>decide ((a3f s l c).2.2.1=0)&&(decide ((a3f s l c).1=ns)&&(decide ((a3f s l c).2.1=nl)&&(decide (0≤done)&&(decide (done≤todo)&&decide (todo≤(segs.length:Int))))))
  |false=>e5s c&&((decide (ns=([],0,()))&&decide (nl=(0,0,0,[],())))&&(decide (todo=0)&&(decide (done=0)&&decide ((next.length:Int)=0))))
def mayT(t:CT):Bool :=
 decide (0≤t.1)&&(decide (t.1≤200)&&(mayS t.2.1&&(mayL t.2.1 t.2.2.1&&(decide (t.2.2.2.1.length≤32)&&(b9x (a9a t)&&(b9x (a8e t)&&((allN t.2.2.2.1.length fun i=>a7g t.2.1.1 (t.2.2.2.1.getD i []))&&(!c2h (extB t)&&wayT t))))))))
structure SmS (b:Nat) (s:CS) (l:CL):Prop where
 cols:s.1.length≤1000
 nms:∀c,c∈s.1→c.2.1.length≤b
 nby:∀c,c∈s.1→a1v c.2.1
 enc:l.2.2.2.1.length≤1000
structure Sm (N:Nat) (t:CT):Prop where
 a:SmS N t.2.1 t.2.2.1
 b:SmS N t.2.2.2.2.2.2.2.1 t.2.2.2.2.2.2.2.2.1
 buf:t.2.2.2.1.length≤1000
 segs:(a9a t).length≤1000
 next:(a8e t).length≤1000
 nm:a1v t.2.2.2.2.2.2.1.2.2.1
 nml:t.2.2.2.2.2.2.1.2.2.1.length≤N
theorem c7t{n b:Nat}{s:CS}{l:CL}(h:SmS b s l)(hn:2001≤n):b4q n (s,l,())=some ((decide (s=([],0,()))&&decide (l=(0,0,0,[],())),()),()):=by
 unfold b4q;dsimp only;rw[a7r (by have:=h.cols;omega) (by have:=h.cols;omega)];simp only[Ab];by_cases h1:s=([],0,())
 ·rw[if_pos (by simp[h1]),b1u (by have:=h.enc;omega) (by have:=h.enc;omega)];simp[h1]
 ·rw[if_neg (by simpa using h1)];simp[h1]
abbrev OB:=Option ((Bool×Unit)×Unit)
abbrev ok1(b:Bool):OB:=some ((b,()),())
theorem c1e{b c:Bool}{X:OB}(h:b=true→X=ok1 c):(if(!b)=true then ok1 false else X)=ok1 (b&&c):=by
 cases b
 ·rfl
 ·exact h rfl
theorem b6k{b c:Bool}{X:OB}(h:b=true→X=ok1 c):(if b=true then X else ok1 false)=ok1 (b&&c):=by
 cases b
 ·rfl
 ·exact h rfl
theorem c4e{p q:Prop}[Decidable p][Decidable q]{c:Bool}{X:OB}(hq:q↔¬p)(h:q→X=ok1 c):(if decide p=true then ok1 false else X)=ok1 (decide q&&c):=by
 by_cases hp:p
 ·have:¬q:=fun h=>hq.1 h hp
  simp[hp,this]
 ·have:q:=hq.2 hp;simp only[hp,this,decide_true,decide_false,FW];exact h this
theorem f7t{len:Nat}{p:Nat→Bool}{body:(Int→OB)→Int→OB}{c:Bool}{n:Nat}(hn:len<n)(hb:∀rec (i:Nat),i<len→body rec (i:Int)=if(!p i)=true then ok1 false else rec ((i+1:Nat):Int))
  (he:∀rec,body rec (len:Int)=ok1 c):a1b body n (0:Int)=ok1 ((allN len p)&&c):=by
 rw[a9k len p ((false,()),()) ((c,()),()) hn ?_ he]
 ·cases allN len p <;> simp
 ·intro rec i hi;rw[hb rec i hi];cases p i <;> simp
theorem f8i{len:Nat}{p:Nat→Bool}{body:(Int→OB)→Int→OB}{c:Bool}{n:Nat}(hn:len<n)(hb:∀rec (i:Nat),i<len→body rec (i:Int)=if p i=true then ok1 false else rec ((i+1:Nat):Int))
  (he:∀rec,body rec (len:Int)=ok1 c):a1b body n (0:Int)=ok1 (!(anyN len p)&&c):=by
 rw[d3j len p (ok1 false) (ok1 c) hn hb he];cases anyN len p <;> simp
theorem g0z{R:Type}(p q:Prop)[Decidable p][Decidable q](a b:R):(if decide p=true then(if decide q=true then a else b) else b)=if(decide p&&decide q)=true then a else b:=by
 by_cases hp:p <;> by_cases hq:q <;> simp[hp,hq]
theorem c0j{n b:Nat}{t:CT}(hs:Sm b t)(hn:3000≤n)(hbn:b<n)(hbr:b≤140737488355328):a2d n (t,())=ok1 (mayT t):=by
 unfold a2d mayT;dsimp only;have ha:=hs.a;have hb:=hs.b;have h3:=hs.buf;have h4:t.2.2.2.2.1.length≤1000:=hs.segs;have h5:t.2.2.2.2.2.2.2.2.2.1.length≤1000:=hs.next;refine c4e (by omega) fun _=>?_
 refine c4e (by omega) fun _=>?_
 rw[c0b (by have:=ha.cols;omega) ha.cols fun c hc=>⟨by have:=ha.nms c hc;omega,by have:=ha.nms c hc;omega⟩];simp only[Ab];refine c1e fun _=>?_
 rw[b2p (by have:=ha.cols;omega) ha.cols (by have:=ha.enc;omega) ha.enc];simp only[Ab];refine c1e fun _=>?_
 refine c4e (by omega) fun _=>?_
 rw[b3w (by omega) (by omega)];simp only[Ab];refine c1e fun _=>?_
 rw[b3w (by omega) (by omega)];simp only[Ab];refine c1e fun _=>?_
 refine f7t (by omega) ?_ ?_
 ·intro rec i hi
  try dsimp only
  rw[if_pos (by rw[decide_eq_true_eq];omega),a3b hi,Ah,b7c (by have:=ha.cols;omega) ha.cols,a0d (by omega)];rfl
 intro rec
 try dsimp only
 rw[if_neg (by rw[decide_eq_true_eq];omega),b4o hs.segs hs.next (by omega)];simp only[Ab];have hE:(extB t).length≤2000:=by unfold extB;rw[Ce,Ac];have:=hs.segs;have:=hs.next;omega
 refine f8i (by omega) (p:=fun i=>anyN i fun k=>d3w ((extB t).getD i e0) ((extB t).getD k e0)) ?_ ?_
 ·intro rec i hi
  try dsimp only
  rw[if_pos (by rw[decide_eq_true_eq];omega),d3j i (fun k=>d3w ((extB t).getD i e0) ((extB t).getD k e0)) (ok1 false) (rec ((i+1:Nat):Int)) (by omega)]
  ·intro rec2 k hk
   try dsimp only
   rw[if_pos (by rw[decide_eq_true_eq];omega),a3b hi,a3b (show k<(extB t).length by omega),a3b (show k<(extB t).length by omega),a3b (show k<(extB t).length by omega),a3b hi,a3b hi,Ah,Ah,a0d (by omega)];exact g0z _ _ _ _
  ·intro rec2
   try dsimp only
   rw[if_neg (by rw[decide_eq_true_eq];omega),a0d (by omega)]
 intro rec
 try dsimp only
 rw[if_neg (by rw[decide_eq_true_eq];omega)];have hnm:=hs.nm;have hnl:=hs.nml;clear hs rec hE;obtain⟨v,s,l,buf,segs,busy,c,ns,nl,next,todo,done,u⟩:=t;dsimp only at *;cases busy
 ·rw[if_pos (by rfl)];show _=ok1 (e5s c&&((decide (ns=([],0,()))&&decide (nl=(0,0,0,[],())))&&(decide (todo=0)&&(decide (done=0)&&decide ((next.length:Int)=0)))));refine b6k (b:=e5s c) fun _=>?_
  rw[c7t hb (by omega)];simp only[Ab];refine b6k fun _=>?_
  refine b6k fun _=>?_
  exact b6k fun _=>rfl
 ·rw[if_neg (by simp)];show _=ok1 (decide ((a3f s l c).2.2.1=0)&&(decide ((a3f s l c).1=ns)&&(decide ((a3f s l c).2.1=nl)&&(decide (0≤done)&&(decide (done≤todo)&&decide (todo≤(segs.length:Int)))))));rw[b6s (by omega) (by have:=ha.cols;omega) ha.cols (fun c hc=>⟨by have:=ha.nms c hc;omega,by have:=ha.nms c hc;omega⟩) (by have:=ha.enc;omega) ha.enc hnm (by omega) (by omega)];simp only[Ab];have g:=e5w s l c;have g1:=ha.cols;have g2:=ha.enc;refine b6k fun _=>?_
  rw[a7r (by omega) (by omega)];simp only[Ab];refine b6k fun _=>?_
  rw[b1u (by omega) (by omega)];simp only[Ab];refine b6k fun _=>?_
  refine b6k fun _=>?_
  exact b6k fun _=>rfl
end Go.Rb.R7

namespace Go.Rb.R7
open Go.Rb
def c7y(v:V):V:=if v.1=3 then(1,v.2) else if v.1=1 then(2,v.2) else v
theorem c4i(n:Nat)(v:V):b1h n (v,())=some ((c7y v,()),()):=by
 unfold b1h c7y;dsimp only;by_cases h3:v.1=3
 ·simp[h3]
 ·by_cases h1:v.1=1 <;> simp[h1,h3]
def b0w(v:V)(c:Int):V×V :=
 if v.1=4∧0≤idxI v.2.2.1 c then((4,0,v.2.2.1.take (idxI v.2.2.1 c).toNat,()),(4,0,v.2.2.1.drop ((idxI v.2.2.1 c).toNat+1),())) else(v,d0)
theorem c4g(n:Nat)(v:V)(c:Int)(hv:v.2.2.1.length≤1000):b1g n (v,c,())=some (((b0w v c).1,(b0w v c).2,()),()):=by
 obtain⟨t,k,s,u⟩:=v;have hi:=e1c c s;unfold b1g a4x ixF b0w;simp only[Ab] at *;by_cases ht:t=4
 ·subst ht;by_cases h:idxI s c<0
  ·have:¬(0≤idxI s c):=by omega
   simp[h,this]
  ·have hw:Aa.wrap (idxI s c+1)=idxI s c+1:=a0i (by omega) (by omega);have h0:0≤idxI s c:=by omega
   have h1:idxI s c≤(s.length:Int):=by omega
   have h2:(0≤idxI s c+1∧idxI s c+1≤(s.length:Int)):=by omega
   have h3:(idxI s c+1).toNat=(idxI s c).toNat+1:=by omega
   simp[h,hw,h0,h1,h2,h3]
 ·simp[ht]
def b0e(cols:List Cl)(c:Chg)(row:List V):List V×Bool :=
 if a7g cols row=false then([],false)
 else if c.1=1 then(row++[c.2.2.2.2.1],true)
 else if c.1=2∨c.1=4∨c.1=5 then
  match byId cols c.2.1 with
  |none=>([],false)
  |some i =>
   if c.1=2 then(row.take i++row.drop (i+1),true)
   else if c.1=4 then(row.set i (c7y (row.getD i d0)),true)
   else((row.set i (b0w (row.getD i d0) c.2.2.2.2.2.1).1).take (i+1)++([(b0w (row.getD i d0) c.2.2.2.2.2.1).2]++(row.set i (b0w (row.getD i d0) c.2.2.2.2.2.1).1).drop (i+1)),true)
 else(row,true)
theorem g1x{cols:List Cl}{c:Chg}{row:List V}(h:a7g cols row=false):b0e cols c row=([],false):=by unfold b0e;rw[if_pos h]
section
variable {cols:List Cl} {c:Chg} {row:List V} {i:Nat} (h:a7g cols row=true)
include h
theorem g0v(h1:c.1=1):b0e cols c row=(row++[c.2.2.2.2.1],true):=by unfold b0e;rw[if_neg (by simp[h]),if_pos h1]
theorem e0x(h1:c.1=2∨c.1=4∨c.1=5)(hb:byId cols c.2.1=none):b0e cols c row=([],false):=by unfold b0e;rw[if_neg (by simp[h]),if_neg (by omega),if_pos h1,hb]
theorem f7s(h1:c.1=2)(hb:byId cols c.2.1=some i):b0e cols c row=(row.take i++row.drop (i+1),true):=by unfold b0e;rw[if_neg (by simp[h]),if_neg (by omega),if_pos (.inl h1),hb];dsimp only;rw[if_pos h1]
theorem g2e(h1:c.1=4)(hb:byId cols c.2.1=some i):b0e cols c row=(row.set i (c7y (row.getD i d0)),true):=by unfold b0e;rw[if_neg (by simp[h]),if_neg (by omega),if_pos (.inr (.inl h1)),hb];dsimp only;rw[if_neg (by omega),if_pos h1]
theorem g1z(h1:c.1=5)(hb:byId cols c.2.1=some i):b0e cols c row=((row.set i (b0w (row.getD i d0) c.2.2.2.2.2.1).1).take (i+1)++([(b0w (row.getD i d0) c.2.2.2.2.2.1).2]++(row.set i (b0w (row.getD i d0) c.2.2.2.2.2.1).1).drop (i+1)),true):=by unfold b0e;rw[if_neg (by simp[h]),if_neg (by omega),if_pos (.inr (.inr h1)),hb];dsimp only;rw[if_neg (by omega),if_neg (by omega)]
theorem f9n(h1:c.1≠1)(h2:c.1≠2)(h4:c.1≠4)(h5:c.1≠5):b0e cols c row=(row,true):=by unfold b0e;rw[if_neg (by simp[h]),if_neg h1,if_neg (by omega)]
end
theorem f2r{v:V}(h:mayV v=true):v.2.2.1.length≤20:=by
 obtain⟨t,k,s,u⟩:=v;unfold mayV at h;dsimp only at h ⊢;split at h
 ·simp at h;simp[h.2]
 ·split at h
  ·simp at h;simp[h.2]
  ·split at h
   ·simp at h;simp[h]
   ·split at h
    ·simp at h;simp[h.2]
    ·split at h
     ·simp at h;exact h.2
     ·simp at h
theorem c9x{t:Int}{v:V}(h:b1a t v=true):v.2.2.1.length≤20:=by
 unfold b1a at h;simp only[Af] at h;exact f2r h.1.1
theorem e8n{t:Int}{v:V}(h:b1a t v=true)(hn:v.1≠4):v.2.2.1=[]:=by
 unfold b1a mayV at h;simp only[Af] at h;obtain⟨⟨h,_⟩,_⟩:=h;split at h
 ·simp at h;exact h.2
 ·split at h
  ·simp at h;exact h.2
  ·split at h
   ·simp at h;exact h
   ·split at h
    ·simp at h;exact h.2
    ·simp[hn] at h
theorem c7p{n:Nat}{s:Sch}{c:Chg}{row:List V}(hn:s.1.length<n)(hc:s.1.length≤1000):b2c n (s,c,row,())=some (((b0e s.1 c row).1,(b0e s.1 c row).2,()),()):=by
 obtain⟨cols,last,u⟩:=s;unfold b2c b0e;dsimp only at *;rw[b6u (s:=(cols,last,u)) hn hc];simp only[Ab];cases hf:a7g cols row with
 |false=>simp
 |true =>
  obtain⟨hl,hfit⟩:=a9s.1 hf;simp only[a0o,Ab,b2n (s:=(cols,last,u)) hn hc];by_cases h1:c.1=1
  ·have:(row.length+1)*32≤room:=by unfold room;omega
   simp[a7w,h1,this]
  ·by_cases h2:c.1=2
   ·unfold atR;cases hb:byId cols c.2.1 with
    |none=>simp[a7w,h2]
    |some i =>
     have hi:i<cols.length:=a6x hb;have h38:a0t n (row,(i:Int),((i+1:Nat):Int),())=some ((row.take i++row.drop (i+1),()),()):=by
      have g2:(i:Int)≤((i+1:Nat):Int):=by omega
      have g3:((i+1:Nat):Int)≤(row.length:Int):=by omega
      unfold a0t delF;dsimp only;rw[if_pos ⟨by omega,g2,g3⟩];simp only[Ah]
     simp[a7w,h2,a0d (show i<9223372036854775807 by omega)];rw[show((i:Int)+1)=((i+1:Nat):Int) by simp,h38];simp
   ·by_cases h4:c.1=4
    ·unfold atR;cases hb:byId cols c.2.1 with
     |none=>simp[a7w,h4]
     |some i =>
      have hi:i<cols.length:=a6x hb;have h3:(i:Int)<row.length:=by omega
      simp[a7w,h4,atI,h3,c4i]
    ·by_cases h5:c.1=5
     ·unfold atR;cases hb:byId cols c.2.1 with
      |none=>simp[a7w,h5]
      |some i =>
       have hi:i<cols.length:=a6x hb;have h3:(i:Int)<row.length:=by omega
       have hlen:=c9x (hfit i hi);have h41:∀a b:V,a0s n (row.set i a,((i+1:Nat):Int),[b],())=some (((row.set i a).take (i+1)++([b]++(row.set i a).drop (i+1)),()),()):=fun a b=>by
        unfold a0s insF;dsimp only;rw[if_pos ⟨by omega,by rw[Bx];omega,by rw[Bx];simp[room];omega⟩];simp only[Ah]
       have h40:=c4g n (row.getD i d0) c.2.2.2.2.2.1 (by omega);simp only[List.getD_eq_getElem?_getD] at h40 ⊢;simp[a7w,h5,atI,h3,h40,a0d (show i<9223372036854775807 by omega)];rw[show((i:Int)+1)=((i+1:Nat):Int) by simp,h41];simp
     ·simp[a7w,h1,h2,h4,h5]
theorem f1p(b:Int)(l:List Int)(c:Int):idxI (b::l) c=if b=c then 0 else if idxI l c=-1 then -1 else idxI l c+1:=rfl
theorem e4j(l:List Int)(c:Int):idxI l c=match a5r l.length (fun i=>decide (l.getD i 0=c)) with|some i=>(i:Int)|none=>-1:=by
 induction l with
 |nil=>rfl
 |cons b l ih =>
  rw[f1p,ih];unfold a5r;rw[Bd,List.range_succ_eq_map,Eu];by_cases h:b=c
  ·simp[h]
  ·rw[if_neg h];have e:((fun i=>decide ((b::l).getD i 0=c)) ∘ Nat.succ)=fun i=>decide (l.getD i 0=c):=by
    funext i;simp
   simp only[ER,h,decide_false,List.find?_map,e];cases Dd (fun i=>decide (l.getD i 0=c)) (List.range l.length) with
   |none=>rfl
   |some j =>
    have:¬((j:Int)=-1):=by omega
    simp[this]
theorem f3s{α:Type}(l:List α)(i:Nat)(x:α)(h:i<l.length):(l.set i x).take (i+1)=l.take i++[x]:=by
 rw[List.take_set,D1 h,List.set_append_right _ _ (by rw[A7];omega),A7,Nat.min_eq_left (by omega)];simp
theorem f3j{α:Type}(l:List α)(i:Nat)(x:α):(l.set i x).drop (i+1)=l.drop (i+1):=by
 rw[List.drop_set_of_lt (by omega)]
def endJ(row:List V)(i:Nat)(a b:V):Option ((List V×Bool×Unit)×Unit) :=
 if 0≤(i:Int)∧(i:Int)≤(row.length:Int) then if(0+(row.take i).length)*32≤room then if((row.take i).length+([a,b]:List V).length)*32≤room then if 0≤(Aa.wrap ((i:Int)+1))∧(Aa.wrap ((i:Int)+1))≤(row.length:Int) then if((row.take i++([a,b]:List V)).length+((row.take (row.length:Int).toNat).drop (Aa.wrap ((i:Int)+1)).toNat).length)*32≤room then some ((((row.take i++([a,b]:List V))++((row.take (row.length:Int).toNat).drop (Aa.wrap ((i:Int)+1)).toNat)),true,()),()) else none else none else none else none else none
theorem c0a{n:Nat}{s:Sch}{c:Chg}{row:List V}(hn:s.1.length<n)(hn2:20<n)(hc:s.1.length≤1000)(hr:row.length≤100000):a6n n (s,c,row,())=some (((b0e s.1 c row).1,(b0e s.1 c row).2,()),()):=by
 obtain⟨cols,last,u⟩:=s;have hro:=a4t;unfold a6n;dsimp only at *;rw[a8a (s:=(cols,last,u)) hn hc];simp only[Ab,b7c (s:=(cols,last,u)) hn hc,a7w,B5,A0];rw[if_pos (show(0+row.length)*32≤room by omega)];cases hf:a7g cols row with
 |false=>rw[g1x hf];simp
 |true =>
  obtain⟨hl,hfit⟩:=a9s.1 hf;simp only[C2,AJ,if_false,Bool.true_eq_false];by_cases h1:c.1=1
  ·have g:(row.length+1)*32≤room:=by omega
   have k2:¬(1:Int)=2:=by decide
   rw[g0v hf h1];simp[h1,g]
  ·by_cases h2:c.1=2
   ·cases hb:byId cols c.2.1 with
    |none=>rw[e0x hf (.inl h2) hb];simp[atR,h2]
    |some i =>
     have hi:i<cols.length:=a6x hb;have g1:((i:Int)≤(row.length:Int)):=by omega
     have g3:((i:Int)+1≤(row.length:Int)):=by omega
     have g4:(min i row.length+(row.length - (i+1)))*32≤room:=by omega
     have g5:((i:Int)+1).toNat=i+1:=by omega
     have g6:(0:Int)≤(i:Int)+1:=by omega
     rw[f7s hf h2 hb];simp[atR,h2,a0d (show i<9223372036854775807 by omega),g1,g3,g4,g5,g6]
   ·by_cases h4:c.1=4
    ·cases hb:byId cols c.2.1 with
     |none=>rw[e0x hf (.inr (.inl h4)) hb];simp[atR,h4]
     |some i =>
      have hi:i<cols.length:=a6x hb;have h3:(i:Int)<row.length:=by omega
      have hir:i<row.length:=by omega
      simp only[h4,atR,C2,AJ,if_false,show ¬(4:Int)=1 by decide,show ¬(4:Int)=2 by decide,decide_true,decide_false,if_true,a3b hir,Ah,Bx];rw[g2e hf h4 hb];simp only[a8y hir,a8y (show i<(row.set i (2,row[i].2)).length by rw[Bx];omega),List.getElem_set_self];unfold c7y;by_cases q1:row[i].1=1
      ·rw[q1];simp
      ·by_cases q3:row[i].1=3
       ·simp[q3]
       ·simp[q1,q3]
    ·by_cases h5:c.1=5
     ·cases hb:byId cols c.2.1 with
      |none=>rw[e0x hf (.inr (.inr h5)) hb];simp[atR,h5]
      |some i =>
       have hi:i<cols.length:=a6x hb;have hir:i<row.length:=by omega
       have hv:=hfit i hi;have hlen:=c9x hv;simp only[h5,atR,C2,AJ,if_false,show ¬(5:Int)=1 by decide,show ¬(5:Int)=2 by decide,show ¬(5:Int)=4 by decide,decide_true,decide_false,if_true,a3b hir,Ah,Bx,Cu,FP];rw[g1z hf h5 hb,f3s _ _ _ hir,f3j];have hend:∀a b:V,endJ row i a b=some (((row.take i++[a])++([b]++row.drop (i+1)),true,()),()):=by
        intro a b;unfold endJ;rw[a0d (show i<9223372036854775807 by omega)];have t1:(row.take i).length=i:=by rw[A7];omega
        rw[if_pos ⟨by omega,by omega⟩,if_pos (by rw[t1];omega),if_pos (by rw[t1];simp only[Bd,A0];omega),if_pos ⟨by omega,by omega⟩,Ah,Ah,AL,if_pos (by simp only[Ac,B8,t1,Bd,A0];omega)];simp
       generalize hvd:row.getD i d0=v at hv hlen;have hloop:=e4j v.2.2.1 c.2.2.2.2.2.1;have key:∀(J:V×Int×Int×List Int×Unit→Option ((List V×Bool×Unit)×Unit)),(a1b (fun rec9 (s8:V×V×Int)=>if decide (s8.2.2<(s8.1.2.2.1.length:Int))=true then atI s8.2.2 s8.1.2.2.1.length (if decide ((s8.1.2.2.1.getD s8.2.2.toNat 0)=c.2.2.2.2.2.1)=true then if 0≤s8.2.2∧s8.2.2≤(s8.1.2.2.1.length:Int) then if 0≤(Aa.wrap (s8.2.2+1))∧(Aa.wrap (s8.2.2+1))≤(s8.1.2.2.1.length:Int) then J ((4,0,s8.1.2.2.1.take s8.2.2.toNat,()),4,0,(s8.1.2.2.1.take (s8.1.2.2.1.length:Int).toNat).drop (Aa.wrap (s8.2.2+1)).toNat,()) else none else none else rec9 (s8.1,s8.2.1,Aa.wrap (s8.2.2+1))) else J (s8.1,s8.2.1)) n (v,d0,0))=J ((b0w v c.2.2.2.2.2.1).1,(b0w v c.2.2.2.2.2.1).2):=by
        intro J;have hg:∀k (i:Nat),i+k=v.2.2.1.length→∀m,k<m→a5r v.2.2.1.length (fun i=>decide (v.2.2.1.getD i 0=c.2.2.2.2.2.1))=(List.range' i k).find? (fun i=>decide (v.2.2.1.getD i 0=c.2.2.2.2.2.1))→(a1b (fun rec9 (s8:V×V×Int)=>if decide (s8.2.2<(s8.1.2.2.1.length:Int))=true then atI s8.2.2 s8.1.2.2.1.length (if decide ((s8.1.2.2.1.getD s8.2.2.toNat 0)=c.2.2.2.2.2.1)=true then if 0≤s8.2.2∧s8.2.2≤(s8.1.2.2.1.length:Int) then if 0≤(Aa.wrap (s8.2.2+1))∧(Aa.wrap (s8.2.2+1))≤(s8.1.2.2.1.length:Int) then J ((4,0,s8.1.2.2.1.take s8.2.2.toNat,()),4,0,(s8.1.2.2.1.take (s8.1.2.2.1.length:Int).toNat).drop (Aa.wrap (s8.2.2+1)).toNat,()) else none else none else rec9 (s8.1,s8.2.1,Aa.wrap (s8.2.2+1))) else J (s8.1,s8.2.1)) m (v,d0,(i:Int)))=J ((b0w v c.2.2.2.2.2.1).1,(b0w v c.2.2.2.2.2.1).2):=by
         intro k
         induction k with
         |zero =>
          intro i hik m hm hfd;obtain⟨m,rfl⟩:∃m',m=m'+1:=⟨m - 1,by omega⟩
          unfold a1b;dsimp only;rw[if_neg (by rw[decide_eq_true_eq];omega)];rw[hfd] at hloop;simp only[List.range'_zero,List.find?_nil] at hloop;unfold b0w;rw[if_neg (by omega)]
         |succ k ih =>
          intro i hik m hm hfd;obtain⟨m,rfl⟩:∃m',m=m'+1:=⟨m - 1,by omega⟩
          have hiv:i<v.2.2.1.length:=by omega
          unfold a1b;dsimp only;rw[if_pos (by rw[decide_eq_true_eq];omega),a3b hiv,Ah];rw[List.range'_succ,Eu] at hfd;by_cases he:v.2.2.1.getD i 0=c.2.2.2.2.2.1
          ·rw[if_pos (by rw[decide_eq_true_eq];exact he),if_pos ⟨by omega,by omega⟩,a0d (show i<9223372036854775807 by omega),if_pos ⟨by omega,by omega⟩,Ah,Ah,AL];simp only[he,decide_true] at hfd;rw[hfd] at hloop;dsimp only at hloop;have h4:v.1=4:=by
            refine C8 fun h4=>?_
            have:=e8n hv h4;rw[this] at hiv;simp at hiv
           unfold b0w;rw[if_pos ⟨h4,by rw[hloop];exact AW i⟩,hloop,Ah]
          ·rw[if_neg (by rw[decide_eq_true_eq];exact he),a0d (by omega)];simp only[he,decide_false] at hfd;exact ih (i+1) (by omega) m (by omega) hfd
        exact hg v.2.2.1.length 0 (by omega) n (by omega) (by unfold a5r;rw[List.range_eq_range'])
       exact(key fun s6=>endJ row i s6.1 s6.2).trans (hend _ _)
     ·rw[f9n hf h1 h2 h4 h5];cases byId cols c.2.1 <;> simp[atR,h1,h2,h4,h5]
end Go.Rb.R7

namespace Go.Rb.R7
open Go.Rb
def b0d(cols:List Cl)(c:Chg)(rows:List (List V)):List (List V)×Bool :=
 if rows.all (fun r=>(b0e cols c r).2)=true then(rows.map fun r=>(b0e cols c r).1,true) else([],false)
section
variable {n:Nat} {s:Sch} {c:Chg} {rows:List (List V)}
theorem d9m{F:Nat→Sch×Chg×List V×Unit→Option ((List V×Bool×Unit)×Unit)}(hF:∀r,r∈rows→F n (s,c,r,())=some (((b0e s.1 c r).1,(b0e s.1 c r).2,()),()))(hr:rows.length≤1000000)(hn:rows.length<n) :
  a1b (fun rec2 (s1:(List (List V))×Int)=>if decide (s1.2<(rows.length:Int))=true then atI s1.2 rows.length ((F n (s,c,rows.getD s1.2.toNat [],())).bind fun y3=>if(!y3.1.2.1)=true then some (([],false,()),()) else if(s1.1.length+([y3.1.1]:List (List V)).length)*24≤room then rec2 (s1.1++([y3.1.1]:List (List V)),Aa.wrap (s1.2+1)) else none) else some ((s1.1,true,()),())) n ([],0)
  = some (((b0d s.1 c rows).1,(b0d s.1 c rows).2,()),()):=by
 have hro:=a4t;have key:∀(k i m:Nat),i+k=rows.length→k<m→a1b (fun rec2 (s1:(List (List V))×Int)=>if decide (s1.2<(rows.length:Int))=true then atI s1.2 rows.length ((F n (s,c,rows.getD s1.2.toNat [],())).bind fun y3=>if(!y3.1.2.1)=true then some (([],false,()),()) else if(s1.1.length+([y3.1.1]:List (List V)).length)*24≤room then rec2 (s1.1++([y3.1.1]:List (List V)),Aa.wrap (s1.2+1)) else none) else some ((s1.1,true,()),())) m ((rows.take i).map fun r=>(b0e s.1 c r).1,(i:Int))
   = if(rows.drop i).all (fun r=>(b0e s.1 c r).2)=true then some ((rows.map fun r=>(b0e s.1 c r).1,true,()),()) else some (([],false,()),()):=by
  intro k
  induction k with
  |zero =>
   intro i m hi hm;obtain⟨m,rfl⟩:∃m',m=m'+1:=⟨m - 1,by omega⟩
   unfold a1b;dsimp only;rw[if_neg (by rw[decide_eq_true_eq];omega),List.drop_of_length_le (by omega),List.take_of_length_le (by omega)];rfl
  |succ k ih =>
   intro i m hi hm;obtain⟨m,rfl⟩:∃m',m=m'+1:=⟨m - 1,by omega⟩
   have hil:i<rows.length:=by omega
   unfold a1b;dsimp only;rw[if_pos (by rw[decide_eq_true_eq];omega),a3b hil,Ah,a8y hil,hF _ (A1 hil)];simp only[Ab];rw[List.drop_eq_getElem_cons hil,List.all_cons];cases hc:(b0e s.1 c rows[i]).2 with
   |false=>simp
   |true =>
    rw[if_neg (by simp),if_pos (by simp only[Ce,A7,Av];omega),a0d (show i<9223372036854775807 by omega),c6w (fun r=>(b0e s.1 c r).1) hil,ih (i+1) m (by omega) (by omega)];simp
 have h0:=key rows.length 0 n (by omega) hn;rw[Dj,FP] at h0;refine Eq.trans h0 ?_;unfold b0d;split <;> rfl
theorem c5p(hn:s.1.length<n)(hc:s.1.length≤1000)(hr:rows.length≤1000000)(hn2:rows.length<n):b2r n (s,c,rows,())=some (((b0d s.1 c rows).1,(b0d s.1 c rows).2,()),()):=by
 unfold b2r;exact d9m (F:=b2c) (fun r _=>c7p hn hc) hr hn2
theorem b8e(hn:s.1.length<n)(hc:s.1.length≤1000)(hr:rows.length≤1000000)(hn2:rows.length<n)(hn3:20<n)(hl:∀r,r∈rows→r.length≤100000):a7m n (s,c,rows,())=some (((b0d s.1 c rows).1,(b0d s.1 c rows).2,()),()):=by
 unfold a7m;exact d9m (F:=a6n) (fun r hr=>c0a hn hn3 hc (hl r hr)) hr hn2
end
def b5n:CT→CR→Option CT
 |(v,s,l,buf,segs,busy,c,ns,nl,next,todo,done,u),(k,st,rows,m,its,more,ch,_) =>
  if k=1 then some st
  else if k=2 then(if 1≤rows.length∧rows.length≤8 then some (v,s,l,buf++rows,segs,busy,c,ns,nl,next,todo,done,u) else none)
  else if k=3 then(if 1≤m∧m≤(buf.length:Int)∧(busy=true∨more.length=0) then some (v,s,l,buf.drop m.toNat,segs++its,busy,c,ns,nl,next++more,todo,done,u) else none)
  else if k=4 then(if busy=false∧(a3f s l ch).2.2.1=0∧v<200 then some (v,s,l,buf,segs,true,ch,(a3f s l ch).1,(a3f s l ch).2.1,next,(segs.length:Int),done,u) else none)
  else if k=5 then(if busy=true∧done<todo then some (v,s,l,buf,segs,busy,c,ns,nl,next++its,todo,Aa.wrap (done+1),u) else none)
  else if k=6 then(if busy=true∧done=todo∧(b0d s.1 c buf).2=true then some (Aa.wrap (v+1),ns,nl,(b0d s.1 c buf).1,next,false,zG,([],0,()),(0,0,0,[],()),[],0,0,u) else none)
  else if k=7 then(if busy=true then some (v,s,l,buf,segs,false,zG,([],0,()),(0,0,0,[],()),[],0,0,u) else none)
  else none
structure SmR (b:Nat) (r:CR):Prop where
 st:r.1=1→Sm b r.2.1
 rows:r.2.2.1.length≤900
 its:r.2.2.2.2.1.length≤900
 more:r.2.2.2.2.2.1.length≤900
 nm:a1v r.2.2.2.2.2.2.1.2.2.1
 nml:r.2.2.2.2.2.2.1.2.2.1.length≤b
structure SmT (b:Nat) (t:CT):Prop extends Sm b t where
 buf2:t.2.2.2.1.length≤100
 segs2:(a9a t).length≤100
 next2:(a8e t).length≤100
 cols2:t.2.1.1.length≤900
 enc2:t.2.2.1.2.2.2.1.length≤900
 width:∀r,r∈t.2.2.2.1→r.length≤100000
theorem c3q{n b:Nat}{t:CT}{r:CR}(ht:SmT b t)(hr:SmR b r)(hn:3000≤n)(hbn:b<n)(hbr:b≤140737488355328):Gets (b1m n (t,r,())) fun y=>(y.1.2.1=false∧b5n t r=none)∨(y.1.2.1=true∧b5n t r=some y.1.1):=by
 have hro:=a4t;have b1:=ht.buf2;have b2:t.2.2.2.2.1.length≤100:=ht.segs2;have b3:t.2.2.2.2.2.2.2.2.2.1.length≤100:=ht.next2;have b4:=ht.cols2;have b5:=ht.enc2;have ha:=ht.a;have hw:=ht.width;have c1:=hr.rows;have c2:=hr.its;have c3:=hr.more;have c4:=hr.nm;have c5:=hr.nml;clear ht hr;obtain⟨v,s,l,buf,segs,busy,c,ns,nl,next,todo,done,u⟩:=t;obtain⟨k,st,rows,m,its,more,ch,u2⟩:=r;unfold b1m b5n;dsimp only at *;simp only[B5,A0];refine .dec (fun k1=>.some (.inr ⟨rfl,by rw[if_pos k1]⟩)) fun k1=>?_
 rw[if_neg k1];refine .dec (fun k2=>?_) fun k2=>?_
 ·rw[if_pos k2];refine .pos (by omega) (.pos (by(try simp only[Ac]);omega) (.dec (fun h=>?_) fun h=>?_))
  ·by_cases h8:rows.length≤8
   ·refine .some (.inr ⟨decide_eq_true (by omega),?_⟩);rw[if_pos ⟨by omega,h8⟩]
   ·refine .some (.inl ⟨decide_eq_false (by omega),?_⟩);rw[if_neg (by omega)]
  ·refine .some (.inl ⟨rfl,?_⟩);rw[if_neg (by omega)]
 rw[if_neg k2];refine .dec (fun k3=>?_) fun k3=>?_
 ·rw[if_pos k3];refine .join (fun x=>x.2=(v,s,l,buf,segs,busy,c,ns,nl,next,todo,done,u)∧1≤m∧m≤(buf.length:Int)∧(busy=true∨more.length=0)) ?_ ?_
  ·rintro⟨x1,x2⟩ ⟨rfl,h1,h2,h3⟩;dsimp only;refine .pos ⟨by omega,h2⟩ (.pos ?_ (.pos (by omega) (.pos (by(try simp only[Ac]);omega) (.pos (by omega) (.pos (by(try simp only[Ac]);omega) (.some (.inr ⟨rfl,?_⟩)))))))
   ·simp only[B8,A7];omega
   ·rw[if_pos ⟨h1,h2,h3⟩,Ah,AL]
  intro J hJ;refine .dec (fun h=>.some (.inl ⟨rfl,by rw[if_neg (by omega)]⟩)) fun h=>.dec (fun h2=>.some (.inl ⟨rfl,by rw[if_neg (by omega)]⟩)) fun h2=>.not (fun hb=>.dec (fun h3=>.some (.inl ⟨rfl,?_⟩)) fun h3=>?_) fun hb=>?_
  ·rw[if_neg];rintro⟨_,_,h4|h4⟩
   ·rw[hb] at h4;cases h4
   ·omega
  ·exact hJ _ ⟨rfl,by omega,by omega,.inr (by omega)⟩
  ·exact hJ _ ⟨rfl,by omega,by omega,.inl hb⟩
 rw[if_neg k3];refine .dec (fun k4=>?_) fun k4=>?_
 ·rw[if_pos k4,b6s (by omega) (by omega) (by omega) (fun c hc=>⟨by have:=ha.nms c hc;omega,by have:=ha.nms c hc;omega⟩) (by omega) (by omega) c4 (by omega) (by omega)];simp only[Ab];refine .not (fun hb=>.dec (fun h0=>?_) fun h0=>?_) fun hb=>?_
  ·by_cases hv:v<200
   ·exact .some (.inr ⟨by simpa using hv,by rw[if_pos ⟨hb,h0,hv⟩]⟩)
   ·exact .some (.inl ⟨by simpa using hv,by rw[if_neg (fun h=>hv h.2.2)]⟩)
  ·exact .some (.inl ⟨rfl,by rw[if_neg (fun h=>h0 h.2.1)]⟩)
  ·exact .some (.inl ⟨rfl,by rw[if_neg (fun h=>by rw[hb] at h;cases h.1)]⟩)
 rw[if_neg k4];refine .dec (fun k5=>?_) fun k5=>?_
 ·rw[if_pos k5];refine .pos (by omega) (.pos (by(try simp only[Ac]);omega) (.ite (fun hb=>?_) fun hb=>?_))
  ·by_cases hd:done<todo
   ·exact .some (.inr ⟨by simpa using hd,by rw[if_pos ⟨hb,hd⟩]⟩)
   ·exact .some (.inl ⟨by simpa using hd,by rw[if_neg (fun h=>hd h.2)]⟩)
  ·exact .some (.inl ⟨rfl,by rw[if_neg (fun h=>hb h.1)]⟩)
 rw[if_neg k5];refine .dec (fun k6=>?_) fun k6=>?_
 ·rw[if_pos k6];refine .not (fun hb=>.some (.inl ⟨rfl,by rw[if_neg (fun h=>by rw[hb] at h;cases h.1)]⟩)) fun hb=>.not (fun hd=>.some (.inl ⟨rfl,by rw[if_neg (fun h=>(of_decide_eq_false hd) h.2.1)]⟩)) fun hd=>?_
  rw[b8e (by omega) (by omega) (by omega) (by omega) (by omega) hw];simp only[Ab,b1p];cases hc:(b0d s.1 c buf).2 with
  |false=>exact .some (.inl ⟨rfl,by rw[if_neg (fun h=>by cases h.2.2)]⟩)
  |true=>exact .some (.inr ⟨rfl,by rw[if_pos ⟨hb,of_decide_eq_true hd,rfl⟩]⟩)
 rw[if_neg k6];refine .dec (fun k7=>?_) fun k7=>?_
 ·rw[if_pos k7];simp only[Ab,b1p];cases busy with
  |false=>exact .some (.inl ⟨rfl,by rw[if_neg (by simp)]⟩)
  |true=>exact .some (.inr ⟨rfl,by rw[if_pos rfl]⟩)
 rw[if_neg k7];exact .some (.inl ⟨rfl,rfl⟩)
end Go.Rb.R7

namespace Go.Rb.R7
open Go.Rb
theorem d6o{nm:List Int}(h:a2q nm=true):a1v nm:=by
 unfold a2q at h;simp only[Af,a5y] at h;intro x hx;obtain⟨i,hi,rfl⟩:=Bf hx;have:=h.2 i hi;unfold b0v at this;simp only[Af,decide_eq_true_eq,a0h hi] at this;omega
theorem f6a{N:Nat}{s:CS}{l:CL}(h1:mayS s=true)(h2:mayL s l=true)(hN:12≤N):SmS N s l∧s.1.length≤6∧l.2.2.2.1.length≤6:=by
 have hs:=b5h.1 h1;have hl:=c2q.1 h2;have h6:=hs.len6;have he:=hl.enc;refine⟨⟨by omega,fun c hc=>?_,fun c hc=>?_,by omega⟩,h6,by omega⟩
 ·have:=d5y (hs.col c hc).2.2.1;omega
 ·exact d6o (hs.col c hc).2.2.1
theorem b9d{N:Nat}:SmS N ([],0,()) (0,0,0,[],()):=⟨by simp,(fun c hc=>by cases hc),(fun c hc=>by cases hc),by simp⟩
theorem d0r{s:CS}{l:CL}{c:CG}(h:(a3f s l c).2.2.1=0):mayS (a3f s l c).1=true∧mayL (a3f s l c).1 (a3f s l c).2.1=true∧mayS s=true∧mayL s l=true∧Ap s l c (a3f s l c).1 (a3f s l c).2.1:=by
 rcases b7j s l c with⟨e,he,hr⟩|⟨h1,h2,t,m,hr,ha⟩
 ·rw[hr] at h;exact absurd h he
 ·rw[hr];have hk:=ha.kept (b5h.1 h1) (c2q.1 h2);exact⟨b5h.2 hk.may,c2q.2 hk.mayL,h1,h2,ha⟩
theorem c7i{N:Nat}{s:CS}{l:CL}{c:CG}(hN:12≤N):SmS N (a3f s l c).1 (a3f s l c).2.1:=by
 by_cases h:(a3f s l c).2.2.1=0
 ·obtain⟨h1,h2,_⟩:=d0r h;exact(f6a h1 h2 hN).1
 ·rcases b7j s l c with⟨e,he,hr⟩|⟨h1,h2,t,m,hr,ha⟩
  ·rw[hr];exact b9d
  ·rw[hr] at h;exact absurd rfl h
structure MayT (t:CT):Prop where
 v0:0≤t.1
 v1:t.1≤200
 s:mayS t.2.1=true
 l:mayL t.2.1 t.2.2.1=true
 buf:t.2.2.2.1.length≤32
 segs:b9x (a9a t)=true
 next:b9x (a8e t)=true
 rows:∀r,r∈t.2.2.2.1→a7g t.2.1.1 r=true
 apart:c2h (extB t)=false
 way:wayT t=true
theorem d5b{t:CT}:mayT t=true↔MayT t:=by
 unfold mayT;simp only[Af,decide_eq_true_eq,a5y,Bool.not_eq_true'];constructor
 ·rintro⟨h1,h2,h3,h4,h5,h6,h7,h8,h9,h10⟩;refine⟨h1,h2,h3,h4,h5,h6,h7,fun r hr=>?_,h9,h10⟩;obtain⟨i,hi,rfl⟩:=Bf hr;have:=h8 i hi;rwa [a0h hi] at this
 ·rintro⟨h1,h2,h3,h4,h5,h6,h7,h8,h9,h10⟩;refine⟨h1,h2,h3,h4,h5,h6,h7,fun i hi=>?_,h9,h10⟩;rw[a0h hi];exact h8 _ (A1 hi)
theorem d8f{t:CT}(h:wayT t=true):(t.2.2.2.2.2.1=false∧e5s t.2.2.2.2.2.2.1=true∧t.2.2.2.2.2.2.2.1=([],0,())∧t.2.2.2.2.2.2.2.2.1=(0,0,0,[],())∧t.2.2.2.2.2.2.2.2.2.2.1=0∧t.2.2.2.2.2.2.2.2.2.2.2.1=0∧(a8e t).length=0) ∨
  (t.2.2.2.2.2.1=true∧(a3f t.2.1 t.2.2.1 t.2.2.2.2.2.2.1).2.2.1=0∧(a3f t.2.1 t.2.2.1 t.2.2.2.2.2.2.1).1=t.2.2.2.2.2.2.2.1∧(a3f t.2.1 t.2.2.1 t.2.2.2.2.2.2.1).2.1=t.2.2.2.2.2.2.2.2.1 ∧
   0≤t.2.2.2.2.2.2.2.2.2.2.2.1∧t.2.2.2.2.2.2.2.2.2.2.2.1≤t.2.2.2.2.2.2.2.2.2.2.1∧t.2.2.2.2.2.2.2.2.2.2.1≤((a9a t).length:Int)):=by
 obtain⟨v,s,l,buf,segs,busy,c,ns,nl,next,todo,done,u⟩:=t;unfold wayT at h;cases busy with
 |false =>
  dsimp only at h;simp only[Af,decide_eq_true_eq] at h;obtain⟨h1,⟨h2,h3⟩,h4,h5,h6⟩:=h;exact .inl ⟨rfl,h1,h2,h3,h4,h5,by unfold a8e;dsimp only;omega⟩
 |true =>
  dsimp only at h;simp only[Af,decide_eq_true_eq] at h;obtain⟨h1,h2,h3,h4,h5,h6⟩:=h;exact .inr ⟨rfl,h1,h2,h3,h4,h5,h6⟩
theorem c0q{l:List CI}(h:b9x l=true):l.length≤60:=(b1v.1 h).2
theorem MayT.sm{N:Nat}{t:CT}(h:MayT t)(hN:12≤N)(hb:a1v t.2.2.2.2.2.2.1.2.2.1)(hl:t.2.2.2.2.2.2.1.2.2.1.length≤N):SmT N t:=by
 have h1:=f6a (N:=N) h.s h.l hN;have h2:=c0q h.segs;have h3:=c0q h.next;have h4:=h.buf;have h5:SmS N t.2.2.2.2.2.2.2.1 t.2.2.2.2.2.2.2.2.1:=by
  rcases d8f h.way with⟨_,_,e1,e2,_⟩|⟨_,_,e1,e2,_⟩
  ·rw[e1,e2];exact b9d
  ·rw[←e1,←e2];exact c7i hN
 refine⟨⟨h1.1,h5,by omega,by omega,by omega,hb,hl⟩,by omega,by omega,by omega,by omega,by omega,fun r hr=>?_⟩;have:=(a9s.1 (h.rows r hr)).1;omega
theorem e6d{cols:List Cl}{c:Chg}{rows:List (List V)}:(b0d cols c rows).1.length≤rows.length:=by
 unfold b0d;split <;> simp
theorem d4k{N:Nat}{t t':CT}{r:CR}(hN:12≤N)(ht:SmT N t)(hr:SmR N r)(h:b5n t r=some t'):Sm N t':=by
 have b1:=ht.buf2;have b2:t.2.2.2.2.1.length≤100:=ht.segs2;have b3:t.2.2.2.2.2.2.2.2.2.1.length≤100:=ht.next2;have ha:=ht.a;have hb:=ht.b;have hnm:=ht.nm;have hnl:=ht.nml;have c0:=hr.st;have c1:=hr.rows;have c2:=hr.its;have c3:=hr.more;have c4:=hr.nm;have c5:=hr.nml;clear ht hr;obtain⟨v,s,l,buf,segs,busy,c,ns,nl,next,todo,done,u⟩:=t;obtain⟨k,st,rows,m,its,more,ch,u2⟩:=r;unfold b5n at h;dsimp only at *;split at h
 ·cases h;exact c0 ‹_›
 split at h
 ·split at h
  ·cases h;exact⟨ha,hb,by dsimp only;rw[Ac];omega,by show segs.length≤1000;omega,by show next.length≤1000;omega,hnm,hnl⟩
  ·cases h
 split at h
 ·split at h
  ·cases h;refine⟨ha,hb,by dsimp only;rw[B8];omega,?_,?_,hnm,hnl⟩
   ·show(segs++its).length≤1000;rw[Ac];omega
   ·show(next++more).length≤1000;rw[Ac];omega
  ·cases h
 split at h
 ·split at h
  ·cases h;exact⟨ha,c7i hN,by dsimp only;omega,by show segs.length≤1000;omega,by show next.length≤1000;omega,c4,c5⟩
  ·cases h
 split at h
 ·split at h
  ·cases h;refine⟨ha,hb,by dsimp only;omega,by show segs.length≤1000;omega,?_,hnm,hnl⟩;show(next++its).length≤1000;rw[Ac];omega
  ·cases h
 split at h
 ·split at h
  ·cases h;refine⟨hb,b9d,?_,by show next.length≤1000;omega,by show([]:List CI).length≤1000;simp,(fun x hx=>by cases hx),by simp[zG]⟩;have:=e6d (cols:=s.1) (c:=c) (rows:=buf);dsimp only;omega
  ·cases h
 split at h
 ·split at h
  ·cases h;exact⟨ha,b9d,by dsimp only;omega,by show segs.length≤1000;omega,by show([]:List CI).length≤1000;simp,(fun x hx=>by cases hx),by simp[zG]⟩
  ·cases h
 ·cases h
def a5h(t:CT)(r:CR):CT×Int :=
 match b5n t r with
 |some t'=>if mayT t'=true then(t',0) else(zT,2)
 |none=>(zT,2)
theorem b2k{n N:Nat}{t:CT}{r:CR}(ht:SmT N t)(hr:SmR N r)(hN:12≤N)(hn:3000≤n)(hbn:N<n)(hbr:N≤140737488355328):a8d n (t,r,())=some (((a5h t r).1,(a5h t r).2,()),()):=by
 obtain⟨y,h1,h2⟩:=c3q ht hr hn hbn hbr;unfold a8d a5h;dsimp only;rw[h1];simp only[Ab];rcases h2 with⟨h2,h3⟩|⟨h2,h3⟩
 ·rw[h2,h3];rfl
 ·rw[h2,h3,if_neg (by simp),c0j (d4k hN ht hr h3) hn hbn hbr];simp only[Ab];cases hm:mayT y.1.1 with
  |false=>simp
  |true=>simp
theorem c2x{t:CT}{r:CR}(h:(a5h t r).2=0):b5n t r=some (a5h t r).1∧MayT (a5h t r).1:=by
 unfold a5h at *;split at h
 ·split at h
  ·rename_i t' h1 h2;rw[h1];simp only[h2,if_true];exact⟨trivial,d5b.1 h2⟩
  ·simp at h
 ·simp at h
theorem c4a{t:CT}{r:CR}(h:(a5h t r).2≠0):a5h t r=(zT,2):=by
 unfold a5h at *;split
 ·split
  ·rename_i t' h1 h2;rw[h1] at h;simp[h2] at h
  ·rfl
 ·rfl
end Go.Rb.R7

namespace Go.Rb.R7
open Go.Rb
theorem d1u:∀{l:List EX},(∀x,x∈l→-4611686018427387904≤x.1∧x.1≤4611686018427387903)→∃l',e6y l=some l'∧l'.map (fun a:SE=>a.1)=l
 |[],_=>⟨[],rfl,rfl⟩
 |x::l,h=>by
  obtain⟨l',h1,h2⟩:=d1u (l:=l) fun y hy=>h y (List.mem_cons_of_mem _ hy)
  refine⟨⟨x,h x (by simp)⟩::l',?_,by simp[h2]⟩;unfold e6y;rw[dif_pos (h x (by simp)),h1];rfl
theorem g2t:Sort.SWO (CX cfE):=f6x (fun x=>by unfold cfE;omega) (fun x y=>by unfold cfE;omega) (fun x y z h1 h2=>by unfold cfE at *;omega)
def ExOK(x:EX):Prop:=1≤x.1∧x.1≤1048576∧1≤x.2.1∧x.2.1≤1048576
def Off(x y:EX):Prop:=d3w x y=false
theorem d7y{x y:EX}(hx:ExOK x)(hy:ExOK y):d3w x y=true↔x.1<y.1+y.2.1∧y.1<x.1+x.2.1:=by
 obtain⟨a1,a2,a3,a4⟩:=hx;obtain⟨b1,b2,b3,b4⟩:=hy;unfold d3w;rw[a0i (by omega) (by omega),a0i (by omega) (by omega),Af,decide_eq_true_eq,decide_eq_true_eq]
theorem e4e(x y:EX):d3w x y=d3w y x:=by unfold d3w;rw[Bool.and_comm]
theorem Off.symm{x y:EX}(h:Off x y):Off y x:=by unfold Off at *;rw[e4e];exact h
theorem e8r{e:List EX}:c2h e=false↔e.Pairwise Off:=by
 rw[BG];unfold c2h;rw[BA,ne_eq,b5x];constructor
 ·intro h i j hi hj hij;refine Off.symm ?_;unfold Off;refine BA.2 fun hm=>h ⟨j,hj,b5x.2 ⟨i,hij,?_⟩⟩
  rw[a0h hj,a0h hi];exact hm
 ·rintro h ⟨j,hj,hk⟩;obtain⟨i,hij,hm⟩:=b5x.1 hk;have:=(h i j (by omega) hj hij).symm;rw[a0h hj,a0h (show i<e.length by omega)] at hm;unfold Off at this;rw[this] at hm;cases hm
theorem e4d{S:List EX}(hok:∀x,x∈S→ExOK x)(hs:S.Pairwise fun x y=>x.1≤y.1):S.Pairwise Off↔∀i,(hi:i+1<S.length)→(S[i]'(by omega)).1+(S[i]'(by omega)).2.1≤S[i+1].1:=by
 constructor
 ·intro h i hi;have h1:=BG.1 h i (i+1) (by omega) hi (by omega);have h2:=BG.1 hs i (i+1) (by omega) hi (by omega);have o1:=hok _ (A1 (show i<S.length by omega));have o2:=hok _ (A1 hi);unfold Off at h1;rw[BA,ne_eq,d7y o1 o2] at h1;obtain⟨a1,a2,a3,a4⟩:=o1;obtain⟨b1,b2,b3,b4⟩:=o2;omega
 ·intro h;refine BG.2 fun i j hi hj hij=>?_
  have key:∀k,(hk:i+1+k<S.length)→S[i].1+S[i].2.1≤S[i+1+k].1:=by
   intro k
   induction k with
   |zero=>intro hk;exact h i hk
   |succ k ih =>
    intro hk;have h1:=ih (by omega);have h2:=h (i+1+k) (by omega);have o:=hok _ (A1 (show i+1+k<S.length by omega));have o3:=o.2.2.1;have e:i+1+k+1=i+1+(k+1):=by omega
    simp only[e] at h2;omega
  have h1:=key (j - i - 1) (by omega);have e:i+1+(j - i - 1)=j:=by omega
  simp only[e] at h1;have o1:=hok _ (A1 hi);have o2:=hok _ (A1 hj);unfold Off;rw[BA,ne_eq,d7y o1 o2];omega
theorem d7i{R:Type}{body:(Int→Option R)→Int→Option R}(len:Nat)(p:Nat→Prop)[DecidablePred p](no fin:Option R)
  (hb:∀rec (i:Nat),1≤i→i<len→body rec (i:Int)=if p i then rec ((i+1:Nat):Int) else no) (he:∀rec (i:Nat),len≤i→body rec (i:Int)=fin) :
  ∀(n i:Nat),1≤i→len - i<n→((∀j,i≤j→j<len→p j)→a1b body n (i:Int)=fin)∧((∃j,i≤j∧j<len∧¬p j)→a1b body n (i:Int)=no)
 |0,i,_,h=>absurd h (by omega)
 |n+1,i,hi,hn=>by
  by_cases hl:i<len
  ·have ih:=d7i len p no fin hb he n (i+1) (by omega) (by omega);unfold a1b;rw[hb _ i hi hl];by_cases hp:p i
   ·rw[if_pos hp];refine⟨fun h=>ih.1 fun j h1 h2=>h j (by omega) h2,fun⟨j,h1,h2,h3⟩=>ih.2 ⟨j,?_,h2,h3⟩⟩;rcases Nat.lt_or_ge i j with h|h
    ·exact h
    ·obtain rfl:i=j:=by omega
     exact absurd hp h3
   ·rw[if_neg hp];exact⟨fun h=>absurd (h i (Ar _) hl) hp,fun _=>rfl⟩
  ·unfold a1b;rw[he _ i (by omega)];exact⟨fun _=>rfl,fun⟨j,h1,h2,_⟩=>absurd h2 (by omega)⟩
theorem d0h{n:Nat}{e:List EX}(hok:∀x,x∈e→ExOK x)(hl:e.length≤2000)(hn:3000≤n):b6m n (e,())=some ((!c2h e,()),()):=by
 unfold b6m a0z a0q f7y;dsimp only;obtain⟨l',h1,h2⟩:=d1u (l:=e) fun x hx=>by have:=hok x hx;unfold ExOK at this;omega
 simp only[Ab,h1];have hp:=c6d g2t l';have hs:=e6e g2t l';generalize (Sort.pdq (CX cfE) l'.toArray 0 l'.length (Lib.bitLen l'.length) true true).toList=S' at hp hs;have hpS:(S'.map fun a:SE=>a.1).Perm e:=by rw[←h2];exact hp.map _
 have hsS:(S'.map fun a:SE=>a.1).Pairwise fun x y=>x.1≤y.1:=by
  rw[List.pairwise_map];refine hs.imp fun {x y} h=>?_
  unfold CX cfE at h;have:=of_decide_eq_false h;omega
 generalize (S'.map fun a:SE=>a.1)=S at hpS hsS;have hokS:∀x,x∈S→ExOK x:=fun x hx=>hok x (hpS.mem_iff.1 hx)
 have hlS:S.length≤2000:=by rw[hpS.length_eq];exact hl
 have hoff:c2h e=false↔∀i,(hi:i+1<S.length)→(S[i]'(by omega)).1+(S[i]'(by omega)).2.1≤S[i+1].1:=by
  rw[e8r,←e4d hokS hsS];exact(hpS.pairwise_iff fun {x y} h=>h.symm).symm
 have hit:=d7i (R:=(Bool×Unit)×Unit) (body:=(fun rec4 (s3:Int)=>if decide (s3<(S.length:Int))=true then atI s3 S.length (atI (Aa.wrap (s3 - 1)) S.length (atI (Aa.wrap (s3 - 1)) S.length (if decide ((Aa.wrap (((S.getD s3.toNat (0,0,())).1) - ((S.getD (Aa.wrap (s3 - 1)).toNat (0,0,())).1)))<((S.getD (Aa.wrap (s3 - 1)).toNat (0,0,())).2).1)=true then some ((false,()),()) else rec4 (Aa.wrap (s3+1))))) else some ((true,()),())))
  S.length (fun i=>(S.getD (i - 1) e0).1+(S.getD (i - 1) e0).2.1≤(S.getD i e0).1) (some ((false,()),())) (some ((true,()),())) ?_ ?_ n 1 (Ar _) (by omega)
 ·cases hc:c2h e with
  |false =>
   refine(hit.1 fun j hj1 hj2=>?_).trans rfl;have:=hoff.1 hc (j - 1) (by omega);have e1:j - 1+1=j:=by omega
   simp only[e1] at this;rw[a0h (show j - 1<S.length by omega),a0h hj2];exact this
  |true =>
   refine(hit.2 ?_).trans rfl;refine C8 fun hno=>?_
   have:c2h e=false:=hoff.2 fun i hi=>by
    refine C8 fun hbad=>hno ⟨i+1,by omega,hi,?_⟩
    rw[Nat.add_sub_cancel,a0h (show i<S.length by omega),a0h hi];exact hbad
   rw[hc] at this;cases this
 ·intro rec i hi1 hil;have hw:Aa.wrap ((i:Int) - 1)=((i - 1:Nat):Int):=by rw[a0i (by omega) (by omega)];omega
  have o1:=hokS _ (A1 hil);have o2:=hokS _ (A1 (show i - 1<S.length by omega))
  try dsimp only
  rw[if_pos (by rw[decide_eq_true_eq];omega),a3b hil,hw,a3b (show i - 1<S.length by omega),a3b (show i - 1<S.length by omega),Ah,Ah,a0d (show i<9223372036854775807 by omega),a0h hil,a0h (show i - 1<S.length by omega)];obtain⟨a1,a2,a3,a4⟩:=o1;obtain⟨b1,b2,b3,b4⟩:=o2;rw[a0i (by omega) (by omega)];by_cases hq:S[i - 1].1+S[i - 1].2.1≤S[i].1
  ·rw[if_pos hq,if_neg (by rw[decide_eq_true_eq];omega)]
  ·rw[if_neg hq,if_pos (by rw[decide_eq_true_eq];omega)]
 ·intro rec i hi
  try dsimp only
  rw[if_neg (by rw[decide_eq_true_eq];omega)]
theorem d4c(n:Nat)(i:CI)(hi:I64 i.2.1):b9v n (i,())=some ((decide (ItOK i),()),()):=by
 obtain⟨hi1,hi2⟩:=hi;unfold b9v;dsimp only;by_cases h1:1≤i.1.1
 ·by_cases h2:i.1.1≤1048576
  ·by_cases h3:1≤i.1.2.1
   ·by_cases h4:i.1.2.1≤1048576
    ·by_cases h5:1≤i.2.1
     ·rw[a0i (x:=i.2.1 - 1) (by omega) (by omega),Int.tdiv_eq_ediv_of_nonneg (by omega),a0i (by omega) (by omega)];by_cases h6:(i.2.1 - 1) / 128<i.1.2.1
      ·by_cases h7:1≤i.2.2.1
       ·by_cases h8:i.2.2.1≤16
        ·by_cases h9:0≤i.2.2.2.1
         ·have:ItOK i↔i.2.2.2.1<4:=by unfold ItOK;omega
          simp[h1,h2,h3,h4,h5,h6,h7,h8,h9,this]
         ·simp[h1,h2,h3,h4,h5,h6,h7,h8,h9,show ¬ItOK i by unfold ItOK;omega]
        ·simp[h1,h2,h3,h4,h5,h6,h7,h8,show ¬ItOK i by unfold ItOK;omega]
       ·simp[h1,h2,h3,h4,h5,h6,h7,show ¬ItOK i by unfold ItOK;omega]
      ·simp[h1,h2,h3,h4,h5,h6,show ¬ItOK i by unfold ItOK;omega]
     ·simp[h1,h2,h3,h4,h5,show ¬ItOK i by unfold ItOK;omega]
    ·simp[h1,h2,h3,h4,show ¬ItOK i by unfold ItOK;omega]
   ·simp[h1,h2,h3,show ¬ItOK i by unfold ItOK;omega]
  ·simp[h1,h2,show ¬ItOK i by unfold ItOK;omega]
 ·simp[h1,show ¬ItOK i by unfold ItOK;omega]
theorem b1z{n:Nat}{a b:List CI}(ha:a.length≤1000)(hb:b.length≤1000)(hn:10≤n):a0m n ([a,b],())=some ((a++b,()),()):=by
 have hro:=a4t;unfold a0m a1m f4c;dsimp only;obtain⟨n,rfl⟩:∃m,n=m+3:=⟨n - 3,by omega⟩
 have w1:Aa.wrap (0+(a.length:Int))=(a.length:Int):=by rw[Int.zero_add];exact a0i (by omega) (by omega)
 have w2:Aa.wrap ((a.length:Int)+(b.length:Int))=((a.length:Int)+(b.length:Int)):=a0i (by omega) (by omega);have w3:Aa.wrap (0+1)=1:=by decide
 have w4:Aa.wrap (1+1)=2:=by decide
 have c1:¬((a.length:Int)<0):=by omega
 have c2:¬((a.length:Int)+(b.length:Int)<0):=by omega
 have c3:(0:Int)≤(a.length:Int)+(b.length:Int)∧((a.length:Int)+(b.length:Int))*((40:Nat):Int)≤(room:Int):=by omega
 have c4:(0+a.length)*40≤room:=by omega
 have c5:(a.length+b.length)*40≤room:=by omega
 simp only[a1b,Bd,A0,atI,show((0:Int)<((0+1+1:Nat):Int)) by decide,show((1:Int)<((0+1+1:Nat):Int)) by decide,show ¬((2:Int)<((0+1+1:Nat):Int)) by decide,decide_true,decide_false,if_true,if_false,Cu,ER,w1,w3,w4,w2,c1,c2,
  show((0:Int)≤0∧(0:Int)<((0+1+1:Nat):Int)) by decide,show((0:Int)≤1∧(1:Int)<((0+1+1:Nat):Int)) by decide,show(1:Int).toNat=1 by decide,List.getD_cons_succ,AJ]
 rw[if_pos c3];simp only[Ab,A0,c4,c5,if_true,B5,and_self]
theorem b6q{n:Nat}{t:CT}(h1:(a9a t).length≤1000)(h2:(a8e t).length≤1000)(hn:2001≤n):a8b n (t,())=some ((extB t,()),()):=by
 have hro:=a4t;unfold a8b extB;dsimp only;have hE:a0m n ([t.2.2.2.2.1,t.2.2.2.2.2.2.2.2.2.1],())=some ((a9a t++a8e t,()),()):=b1z h1 h2 (by omega);rw[hE];simp only[Ab];have hL:(a9a t++a8e t).length≤2000:=by rw[Ac];omega
 generalize a9a t++a8e t=L at hL;refine a4b (fun i=>((L.take i).map (·.1),(i:Int))) L.length (by rw[Dj];rfl) ?_ ?_ (by omega)
 ·intro rec i hi;dsimp only;rw[if_pos (by rw[decide_eq_true_eq];omega),a3b hi,Ah,a8y hi,if_pos (by simp only[Ce,A7,Av];omega),a0d (by omega),c6w (fun x:CI=>x.1) hi]
 ·intro rec;dsimp only;rw[if_neg (by rw[decide_eq_true_eq];omega),AL]
theorem b4c{n:Nat}{l:List (List V)}{g:List V→Option Bool}{p:List V→Bool}(hg:∀c,g c=some (p c))(hn:l.length<n)(hc:l.length≤1000) :
  a1k n (l,g,())=some ((anyN l.length (fun i=>p (l.getD i [])),()),()):=by
 unfold a1k a2r;dsimp only;rw[a7z l.length (fun i=>p (l.getD i [])) (fun i=>some (((i:Int),()),())) (some ((-1,()),())) hn]
 ·rw[←a7y];unfold a5r;cases Dd _ _ <;> simp
 ·intro rec i hi;have h1:(i:Int)<l.length:=by omega
  simp only[h1,atI,decide_true,if_true,Ah,AW,and_self,hg,Ab,a0d (show i<9223372036854775807 by omega)]
 ·intro rec;simp
theorem b3q{n:Nat}{l:List CI}{g:CI→Option Bool}{p:CI→Bool}(hg:∀c,c∈l→g c=some (p c))(hn:l.length<n)(hc:l.length≤2000) :
  a1g n (l,g,())=some ((anyN l.length (fun i=>p (l.getD i i0)),()),()):=by
 unfold a1g a2j;dsimp only;rw[a7z l.length (fun i=>p (l.getD i i0)) (fun i=>some (((i:Int),()),())) (some ((-1,()),())) hn]
 ·rw[←a7y];unfold a5r;cases Dd _ _ <;> simp
 ·intro rec i hi;have h1:(i:Int)<l.length:=by omega
  simp only[h1,atI,decide_true,if_true,Ah,AW,and_self,hg _ (a6s hi),Ab,a0d (show i<9223372036854775807 by omega)]
 ·intro rec;simp
theorem c1f{n:Nat}{l m:List Int}(hn:l.length<n)(hc:l.length≤1000000):a4j n (l,m,())=some ((decide (l=m),()),()):=by
 have:=b3p (m:=m) hn hc;unfold a3z at this;unfold a4j;exact this
theorem c0s{n:Nat}{l m:List Cl}(hn:l.length<n)(hc:l.length≤1000000):a1o n (l,m,())=some ((decide (l=m),()),()):=by
 have:=a7r (s:=(l,0,())) (t:=(m,0,())) hn hc;unfold a1s at this;unfold a1o;dsimp only at *;rw[if_neg (by simp)] at this;refine Eq.trans this ?_;simp
theorem c2e{n N:Nat}{s s':CS}{l l':CL}(h:SmS N s l)(hn:3000≤n):b3e n (s,s',l,l',())=ok1 (decide (s=s')&&decide (l=l')):=by
 have h1:=h.cols;have h2:=h.enc;obtain⟨cs,last,u⟩:=s;obtain⟨cs',last',u'⟩:=s';obtain⟨a,b,c,e,u2⟩:=l;obtain⟨a',b',c',e',u2'⟩:=l';unfold b3e;dsimp only at *;rw[c0s (by omega) (by omega),c1f (by omega) (by omega)];simp only[Ab];by_cases q1:cs=cs' <;> by_cases q2:last=last' <;> by_cases q3:a=a' <;> by_cases q4:b=b' <;> by_cases q5:c=c' <;> by_cases q6:e=e' <;> simp[q1,q2,q3,q4,q5,q6]
theorem f2e{len:Nat}{p:Nat→Bool}:(anyN len fun i=>!p i)=!(allN len p):=by
 rw[←c9p,Bool.not_not]
theorem b7x{n N:Nat}{t:CT}(hs:Sm N t)(hi:a7a (a9a t))(hj:a7a (a8e t))(hn:3000≤n)(hbr:N≤140737488355328):a2w n (t,())=ok1 (mayT t):=by
 unfold a2w mayT;dsimp only;have ha:=hs.a;have hb:=hs.b;have h3:=hs.buf;have h4:t.2.2.2.2.1.length≤1000:=hs.segs;have h5:t.2.2.2.2.2.2.2.2.2.1.length≤1000:=hs.next;have hac:=ha.cols;refine c4e (by omega) fun _=>?_
 refine c4e (by omega) fun _=>?_
 rw[b8a (by omega) (by omega) ha.nby];simp only[Ab];refine c1e fun _=>?_
 rw[b1y (by omega) (by omega)];simp only[Ab];refine c1e fun _=>?_
 refine c4e (by omega) fun _=>?_
 rw[b4c (p:=fun r=>!a7g t.2.1.1 r) (fun c=>by unfold c0m;dsimp only;rw[b6u (by omega) (by omega)];rfl) (by omega) (by omega)];simp only[Ab];rw[f2e];have hcc:a0m n ([t.2.2.2.2.1,t.2.2.2.2.2.2.2.2.2.1],())=some ((a9a t++a8e t,()),()):=b1z h4 h5 (by omega);have hL:(a9a t++a8e t).length≤2000:=by rw[Ac];have:=hs.segs;have:=hs.next;omega
 rw[hcc];simp only[Ab];rw[b3q (p:=fun i=>!decide (ItOK i)) (fun c hc=>by unfold c1o;dsimp only;rw[d4c n c ?_];rfl;rcases Aq.1 hc with hc|hc;exact(hi c hc).2.2.1;exact(hj c hc).2.2.1) (by omega) hL];simp only[Ab];rw[f2e,b6q hs.segs hs.next (by omega)];simp only[Ab];have hit:(allN (a9a t++a8e t).length fun i=>decide (ItOK ((a9a t++a8e t).getD i i0)))=true↔(∀i,i∈a9a t→ItOK i)∧∀i,i∈a8e t→ItOK i:=by
  rw[a5y];constructor
  ·intro h;have hm:∀i,i∈a9a t++a8e t→ItOK i:=fun i hi=>by
    obtain⟨k,hk,rfl⟩:=Bf hi;have:=h k hk;rwa [a0h hk,decide_eq_true_eq] at this
   exact⟨fun i hi=>hm i (List.mem_append_left _ hi),fun i hi=>hm i (List.mem_append_right _ hi)⟩
  ·rintro⟨h1,h2⟩ k hk;rw[a0h hk,decide_eq_true_eq];rcases Aq.1 (A1 hk) with h|h
   ·exact h1 _ h
   ·exact h2 _ h
 have hway:∀c,(if t.2.2.2.2.2.1=true then(b9e n (t,())).bind fun y8=>some ((y8.1.1,()),()) else(b9j n (t,())).bind fun y9=>some ((y9.1.1,()),()))=c→c=ok1 (wayT t):=by
  have hnm:=hs.nm;clear hs hi hj hit hcc hL;obtain⟨v,s,l,buf,segs,busy,c,ns,nl,next,todo,done,u⟩:=t;dsimp only at *;rintro _ rfl;cases busy
  ·rw[if_neg (by simp)];show _=ok1 (e5s c&&((decide (ns=([],0,()))&&decide (nl=(0,0,0,[],())))&&(decide (todo=0)&&(decide (done=0)&&decide ((next.length:Int)=0)))));unfold b9j;dsimp only;have key:∀(b:Bool),(if b=true then(b3e n (ns,([],0,()),nl,(0,0,0,[],()),())).bind fun y1=>if y1.1.1=true then if decide ((next.length:Int)=0)=true then if decide (todo=0)=true then some ((decide (done=0),()),()) else some ((false,()),()) else some ((false,()),()) else some ((false,()),()) else some ((false,()),()))=ok1 (b&&((decide (ns=([],0,()))&&decide (nl=(0,0,0,[],())))&&(decide (todo=0)&&(decide (done=0)&&decide ((next.length:Int)=0))))):=by
    intro b;rw[c2e hb hn];simp only[Ab];generalize (decide (ns=([],0,()))&&decide (nl=(0,0,0,[],())))=q;cases b <;> cases q <;> by_cases q1:next=[] <;> by_cases q2:todo=0 <;> by_cases q3:done=0 <;> simp[q1,q2,q3]
   exact(congrArg (fun o:OB=>o.bind fun y9=>some ((y9.1.1,()),())) (key (e5s c))).trans rfl
  ·rw[if_pos (by rfl)];show _=ok1 (decide ((a3f s l c).2.2.1=0)&&(decide ((a3f s l c).1=ns)&&(decide ((a3f s l c).2.1=nl)&&(decide (0≤done)&&(decide (done≤todo)&&decide (todo≤(segs.length:Int)))))));unfold b9e;dsimp only;rw[b5v (by omega) (by omega) (by omega) ha.nby hnm];simp only[Ab];have hsm:SmS 12 (a3f s l c).1 (a3f s l c).2.1:=c7i (Ar _);rw[c2e hsm hn];simp only[Ab];by_cases q0:(a3f s l c).2.2.1=0 <;> by_cases q1:(a3f s l c).1=ns <;> by_cases q2:(a3f s l c).2.1=nl <;> by_cases q3:0≤done <;> by_cases q4:done≤todo <;> simp[q0,q1,q2,q3,q4]
 cases hr:(allN t.2.2.2.1.length fun i=>a7g t.2.1.1 (t.2.2.2.1.getD i [])) with
 |false =>
  rw[if_pos (by rfl)];simp
 |true =>
  rw[if_neg (by simp)];by_cases s1:(60:Int)<(t.2.2.2.2.1.length:Int)
  ·rw[if_pos (decide_eq_true s1)];have:b9x (a9a t)=false:=by
    rw[BA,ne_eq,b1v];exact fun h=>by have:=h.2;unfold a9a at this;omega
   rw[this];rfl
  rw[if_neg (by rw[decide_eq_true_eq];exact s1)];by_cases s2:(60:Int)<(t.2.2.2.2.2.2.2.2.2.1.length:Int)
  ·rw[if_pos (decide_eq_true s2)];have:b9x (a8e t)=false:=by
    rw[BA,ne_eq,b1v];exact fun h=>by have:=h.2;unfold a8e at this;omega
   rw[this];simp
  rw[if_neg (by rw[decide_eq_true_eq];exact s2)];cases hq:(allN (a9a t++a8e t).length fun i=>decide (ItOK ((a9a t++a8e t).getD i i0))) with
  |false =>
   rw[if_pos (by rfl)];have:(b9x (a9a t)&&(b9x (a8e t)&&(true&&(!c2h (extB t)&&wayT t))))=false:=by
    rw[BA];intro h;simp only[Af] at h;rw[hit.2 ⟨(b1v.1 h.1).1,(b1v.1 h.2.1).1⟩] at hq;cases hq
   rw[this]
  |true =>
   rw[if_neg (by simp)];obtain⟨g1,g2⟩:=hit.1 hq;have e1:b9x (a9a t)=true:=b1v.2 ⟨g1,by unfold a9a;omega⟩;have e2:b9x (a8e t)=true:=b1v.2 ⟨g2,by unfold a8e;omega⟩;have hex:∀x,x∈extB t→ExOK x:=by
    intro x hx;unfold extB at hx;obtain⟨i,hi,rfl⟩:=List.mem_map.1 hx;have:ItOK i:=by
     rcases Aq.1 hi with h|h
     ·exact g1 i h
     ·exact g2 i h
    obtain⟨a1,a2,a3,a4,_⟩:=this;exact⟨a1,a4,a2,a3⟩
   rw[d0h hex (by unfold extB;rw[Ce];exact hL) hn];simp only[Ab];rw[e1,e2];simp only[FW];exact c1e fun _=>hway _ rfl
end Go.Rb.R7

namespace Go.Rb.R7
open Go.Rb
theorem b6h{n:Nat}{l:List (List CV)}(hl:l.length≤1000000)(hn:l.length<n):b3a n (l,())=some ((l,()),()):=by
 have hro:=a4t;unfold b3a a0o;dsimp only;refine a4b (fun i=>(l.take i,(i:Int))) l.length (by rw[Dj];rfl) ?_ ?_ hn
 ·intro rec i hi;dsimp only;rw[if_pos (by rw[decide_eq_true_eq];omega),a3b hi,Ah,a8y hi];simp only[Ab];rw[if_pos (by simp only[A7,Av];omega),a0d (show i<9223372036854775807 by omega),b5t hi]
 ·intro rec;dsimp only;rw[if_neg (by rw[decide_eq_true_eq];omega),AL]
theorem c2u{n:Nat}{t:CT}(hl:t.2.2.2.1.length≤1000000)(hn:t.2.2.2.1.length<n):b5r n (t,())=some ((t,()),()):=by
 unfold b5r a0e a1i a0w;simp only[Ab];rw[b6h hl hn];rfl
theorem b1x{a b:List CI}(ha:a7a a)(hb:a7a b):a7a (a++b):=fun i hi=>by
 rcases Aq.1 hi with h|h
 ·exact ha i h
 ·exact hb i h
structure ItT (t:CT):Prop where
 segs:a7a (a9a t)
 next:a7a (a8e t)
structure ItR (r:CR):Prop where
 st:r.1=1→ItT r.2.1
 its:a7a r.2.2.2.2.1
 more:a7a r.2.2.2.2.2.1
theorem f3v{t t':CT}{r:CR}(ht:ItT t)(hr:ItR r)(h:b5n t r=some t'):ItT t':=by
 obtain⟨a1,a2⟩:=ht;obtain⟨c0,c1,c2⟩:=hr;obtain⟨v,s,l,buf,segs,busy,c,ns,nl,next,todo,done,u⟩:=t;obtain⟨k,st,rows,m,its,more,ch,u2⟩:=r;unfold b5n at h;dsimp only at *;replace a1:a7a segs:=a1;replace a2:a7a next:=a2;split at h
 ·cases h;exact c0 ‹_›
 split at h
 ·split at h
  ·cases h;exact⟨a1,a2⟩
  ·cases h
 split at h
 ·split at h
  ·cases h;exact⟨b1x a1 c1,b1x a2 c2⟩
  ·cases h
 split at h
 ·split at h
  ·cases h;exact⟨a1,a2⟩
  ·cases h
 split at h
 ·split at h
  ·cases h;exact⟨a1,b1x a2 c1⟩
  ·cases h
 split at h
 ·split at h
  ·cases h;exact⟨a2,a5i⟩
  ·cases h
 split at h
 ·split at h
  ·cases h;exact⟨a1,a5i⟩
  ·cases h
 ·cases h
abbrev f6b:UV:=UV.node a9z (.pair (.str [116,104,101,32,114,101,99,111,114,100]) (.pair (UV.sent a2n) .unit))
def g4w(t:CT)(r:CR)(y:(CT×UV×Unit)×Unit):Prop :=
 (y.1.2.1=UV.nil∧b5n t r=some y.1.1∧mayT y.1.1=true)∨(y.1.2.1=f6b∧∀t',b5n t r=some t'→mayT t'=false)
theorem f4y{n N:Nat}{t:CT}{r:CR}(ht:SmT N t)(hr:SmR N r)(hi:ItT t)(hj:ItR r)(hN:12≤N)(hn:3000≤n)(hbr:N≤140737488355328):Gets (b9m n (t,r,())) (g4w t r):=by
 have hro:=a4t;have hsm:=fun t'=>d4k (t':=t') hN ht hr
 have hit:=fun t'=>f3v (t':=t') hi hj
 have b1:=ht.buf2;have b2:t.2.2.2.2.1.length≤100:=ht.segs2;have b3:t.2.2.2.2.2.2.2.2.2.1.length≤100:=ht.next2;have b4:=ht.cols2;have b5:=ht.enc2;have ha:=ht.a;have c1:=hr.rows;have c2:=hr.its;have c3:=hr.more;have c4:=hr.nm;clear ht hr hi hj;unfold b9m;dsimp only;refine .join (fun s=>(s.2=false∧b5n t r=none)∨(s.2=true∧b5n t r=some s.1)) ?_ ?_
 ·rintro⟨s1,s2⟩ hs;dsimp only at *;rcases hs with⟨rfl,h2⟩|⟨rfl,h2⟩
  ·exact .pos (by rfl) (.some (.inr ⟨rfl,fun t' h=>by rw[h2] at h;cases h⟩))
  ·refine .neg (by simp) ?_;have g:=hit s1 h2;rw[b7x (hsm s1 h2) g.segs g.next hn hbr];simp only[Ab];refine .not (fun hm=>.some (.inr ⟨rfl,fun t' h=>?_⟩)) fun hm=>.some (.inl ⟨rfl,h2,hm⟩)
   rw[h2] at h;cases h;exact hm
 intro J hJ;clear hsm hit;obtain⟨v,s,l,buf,segs,busy,c,ns,nl,next,todo,done,u⟩:=t;obtain⟨k,st,rows,m,its,more,ch,u2⟩:=r;unfold b5n at *;dsimp only at *;refine .dec (fun k1=>hJ _ (.inr ⟨rfl,by rw[if_pos k1]⟩)) fun k1=>?_
 refine .dec (fun k2=>?_) fun k2=>?_
 ·rw[if_neg k1,if_pos k2] at hJ;refine .dec (fun h=>?_) fun h=>?_
  ·rw[b6h (by omega) (by omega)];simp only[Ab];refine .pos (by omega) (hJ _ ?_);dsimp only;by_cases h8:rows.length≤8
   ·exact .inr ⟨decide_eq_true (by omega),by rw[if_pos ⟨by omega,h8⟩]⟩
   ·exact .inl ⟨decide_eq_false (by omega),by rw[if_neg (by omega)]⟩
  ·rw[b6h (by omega) (by omega)];simp only[Ab];exact .pos (by omega) (hJ _ (.inl ⟨rfl,by rw[if_neg (by omega)]⟩))
 refine .dec (fun k3=>?_) fun k3=>?_
 ·rw[if_neg k1,if_neg k2,if_pos k3] at hJ;refine .join (fun x=>x.1=(v,s,l,buf,segs,busy,c,ns,nl,next,todo,done,u)∧(x.2=true↔(1≤m∧m≤(buf.length:Int)∧(busy=true∨more.length=0)))) ?_ ?_
  ·rintro⟨x1,x2⟩ ⟨rfl,hx⟩;dsimp only at *;have hq:∀q:Int,q=(if(if 0≤m then m else 0)≤(buf.length:Int) then if 0≤m then m else 0 else(buf.length:Int))→0≤q∧q≤(buf.length:Int)∧((1≤m∧m≤(buf.length:Int))→q=m):=by
    intro q hq;split at hq <;> split at hq <;> omega
   generalize hqe:(if(if 0≤m then m else 0)≤(buf.length:Int) then if 0≤m then m else 0 else(buf.length:Int))=q;obtain⟨q1,q2,q3⟩:=hq q hqe.symm;refine .pos ⟨q1,q2⟩ (.pos (by omega) (.pos (by omega) (hJ _ ?_)));dsimp only;rw[Ah,AL];cases x2 with
   |false=>exact .inl ⟨rfl,by rw[if_neg (fun h=>by have:=hx.2 h;cases this)]⟩
   |true =>
    obtain⟨h1,h2,h3⟩:=hx.1 rfl;exact .inr ⟨rfl,by rw[if_pos ⟨h1,h2,h3⟩,q3 ⟨h1,h2⟩]⟩
  intro J2 hJ2;refine .dec (fun h=>.dec (fun h2=>.ite (fun hb=>hJ2 _ ⟨rfl,?_⟩) fun hb=>hJ2 _ ⟨rfl,?_⟩) fun h2=>hJ2 _ ⟨rfl,?_⟩) fun h=>hJ2 _ ⟨rfl,?_⟩
  ·simp only[true_iff];exact⟨h,h2,.inl hb⟩
  ·rw[decide_eq_true_eq];constructor
   ·exact fun h0=>⟨h,h2,.inr (by omega)⟩
   ·rintro⟨_,_,h0|h0⟩
    ·exact absurd h0 hb
    ·omega
  ·simp only[AJ,false_iff];exact fun h0=>h2 h0.2.1
  ·simp only[AJ,false_iff];exact fun h0=>h h0.1
 refine .dec (fun k4=>?_) fun k4=>?_
 ·rw[if_neg k1,if_neg k2,if_neg k3,if_pos k4] at hJ;rw[b5v (by omega) (by omega) (by omega) ha.nby c4];simp only[Ab];refine .join (fun x=>x.1=(v,s,l,buf,segs,busy,c,ns,nl,next,todo,done,u)∧(x.2=true↔(busy=false∧(a3f s l ch).2.2.1=0∧v<200))) ?_ ?_
  ·rintro⟨x1,x2⟩ ⟨rfl,hx⟩;dsimp only at *;refine hJ _ ?_;dsimp only;cases x2 with
   |false=>exact .inl ⟨rfl,by rw[if_neg (fun h=>by have:=hx.2 h;cases this)]⟩
   |true=>exact .inr ⟨rfl,by rw[if_pos (hx.1 rfl)]⟩
  intro J2 hJ2;refine .not (fun hb=>.dec (fun hv=>hJ2 _ ⟨rfl,?_⟩) fun hv=>hJ2 _ ⟨rfl,?_⟩) fun hb=>hJ2 _ ⟨rfl,?_⟩
  ·rw[decide_eq_true_eq];exact⟨fun h=>⟨hb,h,hv⟩,fun h=>h.2.1⟩
  ·simp only[AJ,false_iff];exact fun h=>hv h.2.2
  ·simp only[AJ,false_iff];exact fun h=>by rw[hb] at h;cases h.1
 refine .dec (fun k5=>?_) fun k5=>?_
 ·rw[if_neg k1,if_neg k2,if_neg k3,if_neg k4,if_pos k5] at hJ;refine .ite (fun hb=>.pos (by omega) (hJ _ ?_)) fun hb=>.pos (by omega) (hJ _ (.inl ⟨rfl,by rw[if_neg (fun h=>hb h.1)]⟩))
  dsimp only;by_cases hd:done<todo
  ·exact .inr ⟨decide_eq_true hd,by rw[if_pos ⟨hb,hd⟩]⟩
  ·exact .inl ⟨decide_eq_false hd,by rw[if_neg (fun h=>hd h.2)]⟩
 have hcut:b8h n ((v,s,l,buf,segs,busy,c,ns,nl,next,todo,done,u),())=some (((Aa.wrap (v+1),ns,nl,(b0d s.1 c buf).1,next,false,zG,([],0,()),(0,0,0,[],()),[],0,0,u),(b0d s.1 c buf).2,()),()):=by
  unfold b8h b5m;dsimp only;rw[c5p (by omega) (by omega) (by omega) (by omega)];rfl
 refine .dec (fun k6=>?_) fun k6=>?_
 ·rw[if_neg k1,if_neg k2,if_neg k3,if_neg k4,if_neg k5,if_pos k6] at hJ;refine .ite (fun hb=>?_) fun hb=>?_
  ·rw[hcut];simp only[Ab];refine .dec (fun hd=>hJ _ ?_) fun hd=>hJ _ (.inl ⟨rfl,by rw[if_neg (fun h=>hd h.2.1)]⟩)
   dsimp only;cases hc:(b0d s.1 c buf).2 with
   |false=>exact .inl ⟨rfl,by rw[if_neg (fun h=>by cases h.2.2)]⟩
   |true=>exact .inr ⟨rfl,by rw[if_pos ⟨hb,hd,rfl⟩]⟩
  ·rw[hcut];simp only[Ab];exact hJ _ (.inl ⟨rfl,by rw[if_neg (fun h=>hb h.1)]⟩)
 refine .dec (fun k7=>?_) fun k7=>?_
 ·rw[if_neg k1,if_neg k2,if_neg k3,if_neg k4,if_neg k5,if_neg k6,if_pos k7] at hJ;unfold b5m;dsimp only[Option.bind];refine hJ _ ?_;dsimp only;cases busy with
  |false=>exact .inl ⟨rfl,by rw[if_neg (by simp)]⟩
  |true=>exact .inr ⟨rfl,by rw[if_pos rfl]⟩
 ·rw[if_neg k1,if_neg k2,if_neg k3,if_neg k4,if_neg k5,if_neg k6,if_neg k7] at hJ;exact hJ _ (.inl ⟨rfl,rfl⟩)
theorem b5d{n N:Nat}{t:CT}{r:CR}(ht:SmT N t)(hr:SmR N r)(hi:ItT t)(hj:ItR r)(hN:12≤N)(hn:3000≤n)(hbr:N≤140737488355328):a9q n (t,r,())=some (((a5h t r).1,(a5h t r).2,()),()):=by
 obtain⟨y,h1,h2⟩:=f4y ht hr hi hj hN hn hbr;have hb:=ht.buf2;unfold a9q;dsimp only;rw[c2u (by omega) (by omega)];simp only[Ab];rw[h1];simp only[Ab];have e1:a2s n (UV.nil,UV.sent a2n,())=some ((false,()),()):=rfl;have e2:a2s n (f6b,UV.sent a2n,())=some ((true,()),()):=rfl;rcases h2 with⟨g1,g2,g3⟩|⟨g1,g2⟩
 ·have g4:=(d4k hN ht hr g2).buf;rw[g1,e1];simp only[Ab];rw[if_neg (by simp)];rw[c2u (by omega) (by omega)];unfold a5h;rw[g2];simp only[g3,if_true];rfl
 ·rw[g1,e2];simp only[Ab];rw[if_pos trivial];unfold a5h;cases ht':b5n t r with
  |none=>rfl
  |some t' =>
   have:=g2 t' ht';simp only[this];rfl
end Go.Rb.R7
