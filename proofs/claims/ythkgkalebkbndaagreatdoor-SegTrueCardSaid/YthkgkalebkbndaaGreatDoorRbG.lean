/- Rb: contracts by hand: laws for stepping through a region. Own work. -/
import Derived.Test.YthkgkalebkbndaaGreatDoorRbE
import Derived.WalkKit
import Derived.Deep.RegionLaw
import Derived.Deep.Cut
import Derived.Lib.SliceRun
import Derived.Lib.Overlaps
import Derived.Lib.Strings
import Derived.Lib.Slices
import Derived.Lib.Walk
import Derived.Lib.Bytealg
import Derived.LaidEql
import Derived.Stop.Asserts
import Derived.Lib.OthersKept
import Derived.Lib.TrimU
import Derived.Deep.LoopGhost
set_option autoImplicit false
set_option linter.unusedVariables false
set_option linter.unusedSimpArgs false
open Go renaming run_underlying->Ay
open Go.Builtin renaming append_->B8,clear_->Cj,zeroCells->Cd
open Go.Instr renaming slice->FC,typeAssert->Gg
open Go.World renaming cell?->By
open List renaming eq_nil_of_length_eq_zero->B1,getD_eq_getElem?_getD->AJ,replicate->Ag
open Nat renaming le_refl->Av,zero_add->FY
open Option.some renaming inj->Ai
namespace Go.Rb
variable {A:Amb} {P:Program} {C:Ctx} {w:World} {Z:Nat→Prop}
theorem wl{ops:Array Oper}{o:Oper}{rest:List Oper}{a:Act}{w1:World}{Q:Exit→Act→World→Prop}(hg:o.guard=none)(v:Value)(hr:(execOp a.eval o).run P w=.ok (.value v) w1)(h:wpList P ops Q rest (a.put o.dst v) w1) :
  wpList P ops Q (o::rest) a w :=
 wpList_plain hg fun K hK=>by
  unfold Oper.wp;rw[hr];exact hK _ _ h
theorem d3k{ops:Array Oper}{o:Oper}{rest:List Oper}{a:Act}{w1:World}{Q:Exit→Act→World→Prop}(hg:o.guard=none)(s x:Operand)(T T2:TypeId)
  (hop:o.op=Op.call { callee:=Callee.builtin Builtin.append,args:=#[s,x],argTypes:=#[T,T2] }) {vs vx:Value} (hs:a.eval s=vs) (hx:a.eval x=vx) (v:Value)
  (hr:(B8 #[T,T2] o.type #[vs,vx]).run P w=.ok v w1) (h:wpList P ops Q rest (a.put o.dst v) w1):wpList P ops Q (o::rest) a w :=
 wl hg v (by simp[execOp,hop,resolve,invoke,builtin,hs,hx,hr,Result.andThen]) h
theorem e1i{T el:TypeId}{i:TypeInfo}(ht:P.underlying T=some (.slice el))(hi:P.info? el=some i){b off n cap lo hi':Nat}(vl vh:Option Value)(hl:(vl=none∧lo=0)∨vl=some (.int .i64 lo))(hh:(vh=none∧hi'=n)∨vh=some (.int .i64 hi'))
  (h1:lo≤hi') (h2:hi'≤cap) (h3:cap≠lo∨lo=0) (w:World) :
  (FC T (.slice (some ⟨b,off,none⟩) n cap) vl vh none).run P w=.ok (.slice (some ⟨b,off+lo*i.size,none⟩) (hi' - lo) (cap - lo)) w:=by
 have e1:((lo:Int)≤(hi':Int)):=by omega
 have e2:((hi':Int)≤(cap:Int)):=by omega
 have hadd:∀k,(⟨b,off,none⟩:Addr).add k=⟨b,off+k,none⟩:=fun k=>a7x (ad:=⟨b,off,none⟩) rfl k
 rcases hl with⟨rfl,rfl⟩|rfl <;> rcases hh with⟨rfl,rfl⟩|rfl
 all_goals
  simp[FC,Ay ht,Instr.sliceBounds,Instr.sliceBound,sizeOf,typeInfo,hi,asIntOf,h1,h2,e1,e2,hadd]
  try (intro hc;rcases h3 with h3|h3 <;> first|exact absurd hc h3|simp[h3])
theorem g2i{ops:Array Oper}{o:Oper}{rest:List Oper}{a:Act}{Q:Exit→Act→World→Prop}{T el:TypeId}{i:TypeInfo}(ht:P.underlying T=some (.slice el))(hi:P.info? el=some i)(hg:o.guard=none)(x:Operand)(lo hi2:Option Operand)
  (hop:o.op=Op.slice T x lo hi2 none) {b off n cap l h:Nat} (hx:a.eval x=.slice (some ⟨b,off,none⟩) n cap) (hl:(lo=none∧l=0)∨lo.map a.eval=some (.int .i64 l)) (hh:(hi2=none∧h=n)∨hi2.map a.eval=some (.int .i64 h))
  (h1:l≤h) (h2:h≤cap) (h3:cap≠l∨l=0) {off' n':Nat} (ho:off+l*i.size=off'∧h - l=n') (hK:wpList P ops Q rest (a.put o.dst (.slice (some ⟨b,off',none⟩) n' (cap - l))) w):wpList P ops Q (o::rest) a w:=by
 obtain⟨rfl,rfl⟩:=ho;refine wl hg _ ?_ hK;have:=e1i (P:=P) ht hi (b:=b) (off:=off) (n:=n) (cap:=cap) (lo:=l) (hi':=h) (lo.map a.eval) (hi2.map a.eval) (hl.imp (fun h=>⟨by rw[h.1];rfl,h.2⟩) id) (hh.imp (fun h=>⟨by rw[h.1];rfl,h.2⟩) id) h1 h2 h3 w;simp[execOp,hop,hx,this,Instr.sliceAt,Ay ht]
theorem e0u{T ty el:TypeId}{z:Value}{sz:Nat}(ht:P.underlying T=some (.slice el))(hz:∀w,(zeroValue el).run P w=.ok z w)(hzs:z.cells.size=sz)(hz1:∀v,v∈z.cells.toList→v.oneCell'=true){b off n cap:Nat}{c:Array Value}
  (hblk:Blk w.heap b c) (hn:0<n) (hfit:off+n*sz≤c.size) :
  ∃w' news,(Cj #[T] ty #[.slice (some ⟨b,off,none⟩) n cap]).run P w=.ok (.tuple #[]) w'∧w'.os=w.os∧w'.output=w.output∧w'.tape=w.tape∧news.length=n*sz∧Wr w.heap w'.heap ⟨b,off,none⟩ news:=by
 have hlen:(Cd z.cells n).toList.length=n*sz:=by simp[size_zeroCells,hzs]
 obtain⟨w',q1,q2,q3,q4,q5,q6⟩:=a2x (P:=P) (Cd z.cells n).toList 0 w ⟨b,off,none⟩ c rfl hblk (by simp only;rw[hlen];exact hfit) (fun v hv=>by
  obtain⟨j,hj,rfl⟩:=List.getElem_of_mem hv;simp only[Cd,Array.getElem_toList];refine hz1 _ ?_;rw[Array.mem_toList_iff];rw[hlen] at hj;have hp:0<z.cells.size:=by
   rw[hzs];rcases Nat.eq_zero_or_pos sz with h|h
   ·simp[h] at hj
   ·exact h
  simp only[Array.getElem_map,Array.getElem_range];rw[getElem!_pos z.cells _ (Nat.mod_lt _ hp)];exact Array.getElem_mem _)
 refine⟨w',_,?_,q2,q3,q4,hlen,q6⟩;obtain⟨m,rfl⟩:∃m,n=m+1:=⟨n - 1,by omega⟩
 simp[Cj,Ay ht,hz,q1]
end Go.Rb

namespace Go.Rb
variable {A:Amb} {P:Program} {C:Ctx} {w w':World} {Z Z':Nat→Prop} {h h':Array Obj}
theorem c5z(n i:Nat):(Ag n ([]:List Nat)).getD i []=[]:=by
 rw[AJ,List.getElem?_replicate];split <;> rfl
theorem c9t(n:Nat):(Ag n ([]:List Nat)).flatten=[]:=by induction n <;> simp_all [List.replicate_succ]
theorem f2c{te:Ty}{e:Nat}{l:List te.den}{b n cap:Nat}{c:Array Value}(hn:n=l.length)(hcap:n≤cap)(hb:n*e≤room)(hr:n≤room)(hblk:BlkE e h b c)(hc:c.size=cap*te.size)
  (hel:∀i (hi:i<l.length),Rep A P te Z h (seg c.toList (i*te.size) te.size) l[i] []):Rep A P (.sl .own e te) Z h [.slice (some ⟨b,0,none⟩) n cap] l [b] :=
 ⟨_,_,_,rfl,hn,hcap,hb,hr,.inr ⟨b,c,Ag l.length [],rfl,hblk,hc,by rw[c9t],by simp,fun i hi=>by rw[c5z];exact hel i hi⟩⟩
theorem f0i{te:Ty}(hp:te.pure=true){e:Nat}{l:List te.den}{cs:List Value}{fp:List Nat}(hr:Rep A P (.sl .own e te) Z h cs l fp) :
  (cs=[.slice none 0 0]∧l=[]∧fp=[])∨∃b n cap c,cs=[.slice (some ⟨b,0,none⟩) n cap]∧n=l.length∧n≤cap∧n*e≤room∧n≤room∧BlkE e h b c∧c.size=cap*te.size∧fp=[b] ∧
   ∀i (hi:i<l.length),Rep A P te Z h (seg c.toList (i*te.size) te.size) l[i] []:=by
 obtain⟨a,n,cap,rfl,h1,h2,h3,h4,h5⟩:=hr;rcases h5 with⟨rfl,rfl,rfl,rfl⟩|⟨b,c,fps,rfl,g1,g2,rfl,g4,g5⟩
 ·simp at h1;subst h1;exact .inl ⟨rfl,rfl,rfl⟩
 ·have hnil:∀i (hi:i<l.length),fps.getD i []=[]:=fun i hi=>a1k (g5 i hi) hp
  have hfl:fps=Ag l.length []:=by
   apply List.ext_getElem
   ·simp[g4]
   ·intro i hi hi2;have:=hnil i (by omega);rw[AJ,List.getElem?_eq_getElem hi] at this;simpa using this
  refine .inr ⟨b,n,cap,c,rfl,h1,h2,h3,h4,g1,g2,by rw[hfl,c9t],fun i hi=>?_⟩;have:=g5 i hi;rwa [hnil i hi] at this
theorem g2o{te:Ty}{e:Nat}{l:List te.den}{cs:List Value}{fp:List Nat}(hr:Rep A P (.sl .imm e te) Z h cs l fp) :
  fp=[]∧∃a n cap,cs=[.slice a n cap]∧n=l.length∧n≤cap∧n*e≤room∧n≤room∧(n=0∨∃ad cells,a=some ad∧Z ad.block∧Row h ad (n*te.size) cells) ∧
   ∃news:List Value,news.length=n*te.size∧(∀i (hi:i<l.length),Rep A P te Z h (seg news (i*te.size) te.size) l[i] [])∧(∀ad,a=some ad→∀j v,news[j]?=some v→∃hz:∀(w:World),w.heap=h→w.cell? (ad.add j)=some v,True):=by
 obtain⟨a,n,cap,rfl,h0,h1,h2,h3,h4,h5⟩:=hr;refine⟨h0,a,n,cap,rfl,h1,h2,h3,h4,?_⟩;rcases h5 with rfl|⟨ad,cells,rfl,g1,g2,g3⟩
 ·simp at h1;subst h1;exact⟨.inl rfl,[],by simp,fun i hi=>by simp at hi,fun ad _ j v hj=>by simp at hj⟩
 ·refine⟨.inr ⟨ad,cells,rfl,g1,g2⟩,cells,g2.2.1,g3,fun ad' had j v hj=>?_⟩;cases had;exact⟨fun w hw=>Row.cell (w:=w) (by rw[hw];exact g2) j v hj,trivial⟩
theorem b6h{m:Md}{e:Nat}{te:Ty}{a:Option Addr}{n cap:Nat}:VC (.sl m e te) (.slice a n cap) [.slice a n cap]:=by
 unfold VC;rw[if_neg (by simp[Ty.agg])];exact⟨rfl,by simp⟩
theorem c1i{t:Ty}{v:Value}{cs:List Value}{x:t.den}{fp:List Nat}(hv:VC t v cs)(hr:Rep A P t Z h cs x fp):d0h A P Z h [.val t] v (x,()) fp :=
 ⟨[v],⟨v,[],fp,[],rfl,⟨cs,hv,hr⟩,⟨rfl,rfl⟩,by simp⟩,by simp⟩
theorem c3h{vs:Array Value}{v:Value}(h:vs.toList=[v]):vs=#[v]:=by
 cases vs;simp at h;subst h;rfl
theorem c2t{vs:Array Value}{v u:Value}(h:vs.toList=[v,u]):vs=#[v,u]:=by
 cases vs;simp at h;subst h;rfl
theorem d4m{f:FuncId}{T e:Nat}{te:Ty}(htab:a3q P C)(hT:C.ty T=some (.sl .imm e te)){z:List Value}(hz:zeroCells te=some z)
  (hnil:∀(w:World) n cap,Calls P f #[.slice none n cap] w fun e w'=>e=.returned (.slice none 0 0)∧w'=w)
  (hsome:∀(w w':World) (el:TypeId) (ad:Addr) (n cap:Nat) (v':Value),P.underlying T=some (.slice el)→(B8 #[T,T] T #[.slice (some ⟨w.heap.size,0,none⟩) 0 0,.slice (some ad) n cap]).run P (w.alloc (.cells #[] el))=.ok v' w' →
   Calls P f #[.slice (some ad) n cap] w fun e w''=>e=.returned v'∧w''=w') :
  a7s A P C f ⟨[.val (.sl .imm e te)],[.val (.sl .own e te)]⟩ fun x=>some ((x.1,()),()):=by
 intro x y hy Z w vs fp hglob hzb hargs hnd hdis;cases hy;obtain⟨v,vs',cs,f1,f2,hvs,hvc,hrep,⟨rfl,rfl⟩,rfl⟩:=hargs;obtain rfl:=c3h hvs;obtain⟨rfl,a,n,cap,rfl,hn,hncap,hb,hroom,hrow,news,hnl,hel,hcell⟩:=g2o hrep;obtain rfl:=a0w rfl hvc;obtain⟨el,i,q1,q2,q3,q4,q5,q6,q7,q8,q9⟩:=b2h htab hT;obtain⟨i',dd,p1,p2,p3,p4,p5⟩:=(htab _ _ q2).ex;rw[q3] at p1;obtain rfl:=Ai p1;obtain⟨zv,p6,p7⟩:=p5 z hz;have hzs:zv.cells.size=i.size:=by
  have h1:=a7t p7;have h2:=a1p (a6b (A:=A) (P:=P) (Z:=Z) (h:=w.heap) hz);rw[←Array.length_toList,h1,h2,q9]
 cases a with
 |none =>
  refine(hnil w n cap).mono fun en w' ⟨he,hw⟩=>?_
  subst hw;have hx:x.1=[]:=by
   rcases hrow with h0|⟨ad,_,h0,_⟩
   ·exact B1 (by omega)
   ·cases h0
  refine⟨_,Z,[],[],he,?_,rfl,⟨fun b=>id,Av _,fun _ _ _=>rfl,fun b hb=>.inl hb,by simp,rfl,rfl,rfl,hzb,by simp,by simp,by simp⟩⟩;refine c1i b6h ?_;rw[hx];exact⟨none,0,0,rfl,rfl,Av _,by simp,by simp,.inl ⟨rfl,rfl,rfl,rfl⟩⟩
 |some ad =>
  have hlt:∀ad' cells,(some ad:Option Addr)=some ad'∧Z ad'.block∧Row w.heap ad' (n*te.size) cells→ad.block<w.heap.size:=fun ad' cells h=>by
   obtain⟨h1,h2,_⟩:=h;cases h1;exact hzb _ h2
  let w1:World:=w.alloc (.cells #[] el)
  have hblk1:Blk w1.heap w.heap.size #[]:=⟨el,(0,0),by show(w.heap.push (.cells #[] el))[w.heap.size]?=_;simp,by simp⟩
  have hnm1:∀b0,(some ⟨w.heap.size,0,none⟩:Option Addr)=some ⟨b0,0,none⟩→NoMk w1.heap b0:=fun b0 h0=>by
   cases h0;intro c' el' fr' h;have h:(w.heap.push (.cells #[] el))[w.heap.size]?=some (.cells c' el' fr'):=h;simp at h;obtain⟨rfl,rfl,rfl⟩:=h;simp
  have hh1:∀k,k<w.heap.size→w1.heap[k]?=w.heap[k]?:=fun k hk=>by
   show(w.heap.push (.cells #[] el))[k]?=_;rw[Array.getElem?_push,if_neg (by omega)]
  have hsz1:w1.heap.size=w.heap.size+1:=by show(w.heap.push (.cells #[] el)).size=_;simp
  have hone:∀v,v∈news→v.oneCell'=true:=by
   intro v hv;obtain⟨j,hj,hv⟩:=d9d hnl hv;exact a6o (hel j (by omega)) v hv
  have hfc:∀w':World,w'.heap=w1.heap→(Builtin.firstCells i.size n (.slice (some ad) n cap)).run P w'=.ok news.toArray w':=fun w' hw'=>by
   refine run_firstCells_some w' i.size n _ n cap _ (by rw[q9];exact hnl) ?_;rcases hrow with h0|⟨ad',cells,h0⟩
   ·subst h0;have:news=[]:=B1 (by omega);subst this;simp
   ·intro j v hj;have hlt:=hlt ad' cells h0;obtain⟨hc,_⟩:=hcell ad rfl j v hj;have hc:=hc w rfl;have:(ad.add j).block=ad.block:=by
     unfold Addr.add;split <;> rfl
    unfold By at hc ⊢;rw[this] at hc ⊢;rw[hw',hh1 _ hlt];exact hc
  obtain⟨v',w',g1,g2,g3,g4,g5,g6,g7⟩:=c4c (P:=P) (w:=w1) (T:=T) (T2:=T) (ty:=T) (v:=.slice (some ad) n cap) (base:=some ⟨w.heap.size,0,none⟩) (n:=0) (cap:=0) (m:=n) (cs:=[]) (news:=news) q1 q1 (by simp) q3 p6 hzs
   (by omega) (.inr ⟨_,#[],rfl,hblk1,by simp,Av _,by simp⟩) (by rw[q9];exact hnl) hone (fun w=>by simp[Builtin.lenOf]) hfc (by rw[q4,FY];exact hb)
  refine(hsome w w' el ad n cap v' q1 g1).mono fun en w'' ⟨he,hw⟩=>?_
  subst hw;rcases g7 with⟨_,_,h0,_⟩|⟨b',c',cap',rfl,v1,v2,v3,v4,v5,v6⟩
  ·cases h0
  ·rw[FY] at v3 v5 he;rw[q9] at v2 v5;rw[List.nil_append] at v5;have hb':w.heap.size≤b':=by
    rcases v4 with h|h
    ·cases h;exact Av _
    ·omega
   have hkeep:∀b,b<w.heap.size→w''.heap[b]?=w.heap[b]?:=fun b hb=>by
    rw[g6 b (by omega) (by intro h;cases h;omega),hh1 b hb]
   have hblt:b'<w''.heap.size:=v1.lt;refine⟨_,Z,[b'],[],he,c1i b6h (f2c hn v3 hb hroom ⟨v1,fun _=>v6 hnm1⟩ v2 fun k hk=>?_),rfl,⟨fun b=>id,by omega,fun b hb _=>hkeep b hb,fun b hb=>.inl hb,fun b hb=>.inr (by simp at hb;omega),g2,g3,g4,fun b hb=>by have:=hzb b hb;omega,fun b hb=>by simp at hb;omega,fun b hb hz=>by simp at hb;subst hb;have:=hzb _ hz;omega,by simp⟩⟩;have hle:k*te.size+te.size≤n*te.size:=by rw[←Nat.succ_mul];exact Nat.mul_le_mul_right _ (by omega)
   rw[←c3q hle,v5];exact a0g (hel k hk) (fun b=>id) fun b hb=>hb.elim (fun hb=>hkeep b (hzb b hb)) (by simp)
theorem Blk.cell{b:Nat}{c:Array Value}(hb:Blk w.heap b c)(o:Nat):w.cell? ⟨b,o,none⟩=c[o]?:=by
 obtain⟨el,fr,h1,_⟩:=hb;simp[By,h1]
theorem Wr.oth2{ad:Addr}{ys:List Value}(hw:Wr h h' ad ys):(∀b,b≠ad.block→h'[b]?=h[b]?)∧h'.size=h.size:=by
 obtain⟨_,_,_,_,_,_,_,_,_,h1,h2⟩:=hw;exact⟨h1,h2⟩
end Go.Rb

namespace Go.Rb
variable {A:Amb} {P:Program} {C:Ctx} {w w':World} {Z Z':Nat→Prop} {h h':Array Obj}
end Go.Rb

namespace Go.Rb
variable {A:Amb} {P:Program} {C:Ctx} {w w':World} {Z Z':Nat→Prop} {h h':Array Obj}
theorem f8e(hzb:∀b,Z b→b<w.heap.size):Step Z w [] Z w ([]++[]) :=
 ⟨fun b=>id,Av _,fun _ _ _=>rfl,fun b hb=>.inl hb,by simp,rfl,rfl,rfl,hzb,by simp,by simp,by simp⟩
theorem g4o{t:Ty}{v:Value}(h1:t.agg=false)(h2:∀a,v≠.agg a):VC t v [v]:=by
 unfold VC;rw[if_neg (by simp[h1])];exact⟨rfl,h2⟩
end Go.Rb

namespace Go.Rb
variable {A:Amb} {P:Program} {C:Ctx} {w w':World} {Z Z':Nat→Prop} {h h':Array Obj}
def f5n(P:Program)(t:TypeId):Bool:=match P.underlying t with
 |some (.interface _)=>true
 |_=>false
theorem a9i{t:TypeId}(h:f5n P t=true):∃ms,P.underlying t=some (.interface ms):=by
 unfold f5n at h;split at h
 ·exact⟨_,by assumption⟩
 ·simp at h
def d3f(P:Program)(t asserted:TypeId):Bool:=match P.underlying asserted,P.info? t,P.info? asserted with
 |some (.interface want),some i,some j=>(match lacking want i.methods with|[]=>false|_=>true)&&(match j.zero with|some .nilIface=>true|_=>false)
 |_,_,_=>false
theorem a3m{t asserted:TypeId}(h:d3f P t asserted=true)(v:Value)(xT:TypeId)(w:World):(Gg (.iface t v) xT asserted true).run P w=.ok (.tuple #[.nilIface,.bool false]) w:=by
 unfold d3f at h;split at h
 ·rename_i want i j h1 h2 h3;simp only[Bool.and_eq_true] at h;obtain⟨h4,h5⟩:=h;split at h4
  ·simp at h4
  ·rename_i hl;split at h5
   ·rename_i hz;exact run_typeAssert_lacks h1 h2 h3 hz hl
   ·simp at h5
 ·simp at h
def hasB(P:Program)(t asserted:TypeId):Bool:=match P.underlying asserted,P.info? t with
 |some (.interface want),some i=>(match lacking want i.methods with|[]=>true|_=>false)
 |_,_=>false
theorem c8e{t asserted:TypeId}(h:hasB P t asserted=true)(v:Value)(xT:TypeId)(w:World):(Gg (.iface t v) xT asserted true).run P w=.ok (.tuple #[.iface t v,.bool true]) w:=by
 unfold hasB at h;split at h
 ·rename_i want i h1 h2;split at h
  ·rename_i hl;exact run_typeAssert_has h1 h2 hl
  ·simp at h
 ·simp at h
end Go.Rb

namespace Go.Rb
variable {A:Amb} {P:Program} {C:Ctx} {w w':World} {Z Z':Nat→Prop} {h h':Array Obj}
def toBA(l:List Int):ByteArray:=⟨(l.map fun c=>c.toNat.toUInt8).toArray⟩
theorem f3z(s:ByteArray):toBA (a1o s)=s:=by
 cases s with|mk a =>
 unfold toBA a1o;congr 1;cases a with|mk l =>
 simp only[List.map_map];congr 1
 induction l with
 |nil=>rfl
 |cons b l ih =>
  simp only[List.map_cons,ih,Function.comp_apply];congr 1;apply UInt8.toNat_inj.1;simp[Nat.toUInt8]
theorem a6t{f:FuncId}(h:a4q P f)(args:Array Value)(w:World):(callFunc f args).run P w=.ok (.enter f args) w:=by
 obtain⟨fn,hf,hname,hb⟩:=h;have h1 : fn.name ≠ "runtime.NumGoroutine" := by simpa using hname
 obtain⟨c,hc⟩:∃c,fn.body=some c:=by
  cases hx:fn.body with
  |none=>simp[hx] at hb
  |some c=>exact⟨c,rfl⟩
 simp[callFunc,hf,h1,hc,mark]
end Go.Rb
