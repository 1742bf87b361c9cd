/- Rb: contracts by hand: laws for stepping through a region. Own work. -/
import Derived.Test.YthkgkalebkbndaaGreatDoorRbE
import Derived.WalkKit
import Derived.Deep.RegionLaw
import Derived.Deep.Cut
import Derived.Lib.SliceRun
import Derived.Lib.Overlaps
import Derived.Lib.Strings
import Derived.Lib.Slices
import Derived.Lib.Walk
import Derived.Lib.Bytealg
import Derived.LaidEql
import Derived.Stop.Asserts
import Derived.Lib.OthersKept
import Derived.Lib.TrimU
import Derived.Deep.LoopGhost
set_option autoImplicit false
set_option linter.unusedVariables false
set_option linter.unusedSimpArgs false
open Array renaming append_assoc->BD,length_toList->AN
open Go renaming run_firstCells_some->CH,run_underlying->An,size_zeroCells->Et
open Go.Builtin renaming append->Fh,append_->A2,clear_->B3,copy->F8,copy_->AP,firstCells->AD,lenOf->Bq,zeroCells->B1
open Go.Callee renaming builtin->CA
open Go.Extern.SlicesOverlaps renaming overlaps->Ba
open Go.Instr renaming slice->ED,typeAssert->Fi
open Go.IntKind renaming bits->Bi,i32->Dz,i64->Aa,signed->AX,u8->A6,wrap->Bh
open Go.Lib renaming indexByte->D6
open Go.Op renaming call->EF,intArith->It
open Go.Oper renaming wp->Ch
open Go.Question renaming forced->Ds
open Go.Region renaming wanted->Bs
open Go.Result renaming andThen->CB
open Go.RowKit renaming Below->Cg
open Go.Utf8 renaming decode->Ex
open Go.Value renaming bool->EP
open Go.World renaming cell?->C5,frozen?->FJ,shape?->FU
open Int renaming toNat_natCast->Ah,toNat_of_nonneg->B4
open List renaming append_nil->A9,eq_nil_of_length_eq_zero->Bm,getD_eq_getElem?_getD->BF,getElem?_eq_getElem->Bb,getElem_append_left->BK,getElem_append_right->Br,getElem_drop->D8,getElem_take->Cq,length_append->Ac,length_drop->B8,length_take->A7,map_cons->Bc,nil_append->B5,replicate->As,take_append_drop->Bw
open Nat renaming add_mul->AA,eq_zero_or_pos->D9,le_mul_of_pos_right->BB,le_refl->Ar,le_trans->AM,lt_of_lt_of_le->AU,lt_or_ge->BQ,min_def->El,mul_le_mul_right->Ai,mul_pos->Ii,succ_mul->AC,toUInt8->Ij,zero_add->EW
open Option.some renaming inj->Ag,injEq->Ad
open UInt8 renaming toNat_inj->Fu
namespace Go.Rb
variable {A:Amb} {P:Program} {C:Ctx} {w:World} {Z:Nat→Prop}
theorem wl{ops:Array Oper}{o:Oper}{rest:List Oper}{a:Act}{w1:World}{Q:Exit→Act→World→Prop}(hg:o.guard=none)(v:Value)(hr:(execOp a.eval o).run P w=.ok (.value v) w1)(h:wpList P ops Q rest (a.put o.dst v) w1) :
  wpList P ops Q (o::rest) a w :=
 wpList_plain hg fun K hK=>by
  unfold Ch;rw[hr];exact hK _ _ h
theorem a6k{ops:Array Oper}{o:Oper}{rest:List Oper}{a:Act}{w1:World}{Q:Exit→Act→World→Prop}(hg:o.guard=none)(s x:Operand)(T T2:TypeId)
  (hop:o.op=EF { callee:=CA Fh,args:=#[s,x],argTypes:=#[T,T2] }) {vs vx:Value} (hs:a.eval s=vs) (hx:a.eval x=vx) (v:Value)
  (hr:(A2 #[T,T2] o.type #[vs,vx]).run P w=.ok v w1) (h:wpList P ops Q rest (a.put o.dst v) w1):wpList P ops Q (o::rest) a w :=
 wl hg v (by simp[execOp,hop,resolve,invoke,builtin,hs,hx,hr,CB]) h
theorem c3k{ops:Array Oper}{o:Oper}{rest:List Oper}{a:Act}{w1:World}{Q:Exit→Act→World→Prop}(hg:o.guard=none)(s x:Operand)(T T2:TypeId)
  (hop:o.op=EF { callee:=CA F8,args:=#[s,x],argTypes:=#[T,T2] }) {vs vx:Value} (hs:a.eval s=vs) (hx:a.eval x=vx) (v:Value)
  (hr:(AP #[T,T2] o.type #[vs,vx]).run P w=.ok v w1) (h:wpList P ops Q rest (a.put o.dst v) w1):wpList P ops Q (o::rest) a w :=
 wl hg v (by simp[execOp,hop,resolve,invoke,builtin,hs,hx,hr,CB]) h
theorem d4g{ops:Array Oper}{o:Oper}{rest:List Oper}{a:Act}{w1:World}{Q:Exit→Act→World→Prop}(hg:o.guard=none)(x:Operand)(T:TypeId)
  (hop:o.op=EF { callee:=CA Builtin.clear,args:=#[x],argTypes:=#[T] }) {vx:Value} (hx:a.eval x=vx) (v:Value)
  (hr:(B3 #[T] o.type #[vx]).run P w=.ok v w1) (h:wpList P ops Q rest (a.put o.dst v) w1):wpList P ops Q (o::rest) a w :=
 wl hg v (by simp[execOp,hop,resolve,invoke,builtin,hx,hr,CB]) h
theorem f0r{ops:Array Oper}{o:Oper}{rest:List Oper}{a:Act}{Q:Exit→Act→World→Prop}(hg:o.guard=none)(x y:Operand)(t t2:TypeId)(hop:o.op=Op.binOp .add t x y t2){p q:Int}(r:Int)
  (hx:a.eval x=.int .i64 p) (hy:a.eval y=.int .i64 q) (hr:p+q=r∧-9223372036854775808≤r∧r≤9223372036854775807) (h:wpList P ops Q rest (a.put o.dst (.int .i64 r)) w):wpList P ops Q (o::rest) a w:=by
 obtain⟨h1,h2,h3⟩:=hr;refine wl hg (.int .i64 r) ?_ h;have hw:Aa.wrap (p+q)=r:=by
  rw[h1];simp only[Bh,Bi,AX,if_true];simp;split <;> omega
 simp[execOp,hop,hx,hy,binOp,It,hw,b3x]
theorem f1d{ops:Array Oper}{o:Oper}{rest:List Oper}{a:Act}{Q:Exit→Act→World→Prop}(hg:o.guard=none)(x y:Operand)(t t2:TypeId)(hop:o.op=Op.binOp .sub t x y t2){p q:Int}(r:Int)
  (hx:a.eval x=.int .i64 p) (hy:a.eval y=.int .i64 q) (hr:p - q=r∧-9223372036854775808≤r∧r≤9223372036854775807) (h:wpList P ops Q rest (a.put o.dst (.int .i64 r)) w):wpList P ops Q (o::rest) a w:=by
 obtain⟨h1,h2,h3⟩:=hr;refine wl hg (.int .i64 r) ?_ h;have hw:Aa.wrap (p - q)=r:=by
  rw[h1];simp only[Bh,Bi,AX,if_true];simp;split <;> omega
 simp[execOp,hop,hx,hy,binOp,It,hw,b3x]
theorem d3q{T el:TypeId}{i:TypeInfo}(ht:P.underlying T=some (.slice el))(hi:P.info? el=some i){b off n cap lo hi':Nat}(vl vh:Option Value)(hl:(vl=none∧lo=0)∨vl=some (.int .i64 lo))(hh:(vh=none∧hi'=n)∨vh=some (.int .i64 hi'))
  (h1:lo≤hi') (h2:hi'≤cap) (h3:cap≠lo∨lo=0) (w:World) :
  (ED T (.slice (some ⟨b,off,none⟩) n cap) vl vh none).run P w=.ok (.slice (some ⟨b,off+lo*i.size,none⟩) (hi' - lo) (cap - lo)) w:=by
 have e1:((lo:Int)≤(hi':Int)):=by omega
 have e2:((hi':Int)≤(cap:Int)):=by omega
 have hadd:∀k,(⟨b,off,none⟩:Addr).add k=⟨b,off+k,none⟩:=fun k=>a8j (ad:=⟨b,off,none⟩) rfl k
 rcases hl with⟨rfl,rfl⟩|rfl <;> rcases hh with⟨rfl,rfl⟩|rfl
 all_goals
  simp[ED,An ht,Instr.sliceBounds,Instr.sliceBound,sizeOf,typeInfo,hi,asIntOf,h1,h2,e1,e2,hadd]
  try (intro hc;rcases h3 with h3|h3 <;> first|exact absurd hc h3|simp[h3])
theorem b1k{ops:Array Oper}{o:Oper}{rest:List Oper}{a:Act}{Q:Exit→Act→World→Prop}{T el:TypeId}{i:TypeInfo}(ht:P.underlying T=some (.slice el))(hi:P.info? el=some i)(hg:o.guard=none)(x:Operand)(lo hi2:Option Operand)
  (hop:o.op=Op.slice T x lo hi2 none) {b off n cap l h:Nat} (hx:a.eval x=.slice (some ⟨b,off,none⟩) n cap) (hl:(lo=none∧l=0)∨lo.map a.eval=some (.int .i64 l)) (hh:(hi2=none∧h=n)∨hi2.map a.eval=some (.int .i64 h))
  (h1:l≤h) (h2:h≤cap) (h3:cap≠l∨l=0) {off' n':Nat} (ho:off+l*i.size=off'∧h - l=n') (hK:wpList P ops Q rest (a.put o.dst (.slice (some ⟨b,off',none⟩) n' (cap - l))) w):wpList P ops Q (o::rest) a w:=by
 obtain⟨rfl,rfl⟩:=ho;refine wl hg _ ?_ hK;have:=d3q (P:=P) ht hi (b:=b) (off:=off) (n:=n) (cap:=cap) (lo:=l) (hi':=h) (lo.map a.eval) (hi2.map a.eval) (hl.imp (fun h=>⟨by rw[h.1];rfl,h.2⟩) id) (hh.imp (fun h=>⟨by rw[h.1];rfl,h.2⟩) id) h1 h2 h3 w;simp[execOp,hop,hx,this,Instr.sliceAt,An ht]
theorem c6s{ops:Array Oper}{o:Oper}{a:Act}{w1:World}{K:Act→World→Prop}{Q:Exit→Act→World→Prop}{E:Prop}(hg:o.guard=none)(s x:Operand)(T T2:TypeId)
  (hop:o.op=EF { callee:=CA Fh,args:=#[s,x],argTypes:=#[T,T2] }) {vs vx:Value} (hs:a.eval s=vs) (hx:a.eval x=vx) (v:Value)
  (hr:(A2 #[T,T2] o.type #[vs,vx]).run P w=.ok v w1) (hK:K (a.put o.dst v) w1):if Bs o (yielded ops a.tmps)=true then Ch P o a w K Q else E:=by
 have hw:Bs o (yielded ops a.tmps)=true:=by simp[Bs,hg]
 rw[if_pos hw];unfold Ch;simp[execOp,hop,resolve,invoke,builtin,hs,hx,hr,CB];exact hK
theorem c3n{ops:Array Oper}{o:Oper}{a:Act}{w1:World}{K:Act→World→Prop}{Q:Exit→Act→World→Prop}{E:Prop}(hg:o.guard=none)(s x:Operand)(T T2:TypeId)
  (hop:o.op=EF { callee:=CA F8,args:=#[s,x],argTypes:=#[T,T2] }) {vs vx:Value} (hs:a.eval s=vs) (hx:a.eval x=vx) (v:Value)
  (hr:(AP #[T,T2] o.type #[vs,vx]).run P w=.ok v w1) (hK:K (a.put o.dst v) w1):if Bs o (yielded ops a.tmps)=true then Ch P o a w K Q else E:=by
 have hw:Bs o (yielded ops a.tmps)=true:=by simp[Bs,hg]
 rw[if_pos hw];unfold Ch;simp[execOp,hop,resolve,invoke,builtin,hs,hx,hr,CB];exact hK
theorem d0n{T T2 ty el:TypeId}{i:TypeInfo}{u2:TypeDesc}(ht:P.underlying T=some (.slice el))(h2:P.underlying T2=some u2)(hu2:∀k,u2≠.int k)(hi:P.info? el=some i){b n cap m:Nat}{c:Array Value}{news:List Value}{v:Value}
  (hblk:Blk w.heap b c) (hfit:(n+m)*i.size≤c.size) (hroomy:n+m≤cap) (hr:n+m≤room) (hm:news.length=m*i.size) (h1:∀v,v∈news→v.oneCell'=true) (hlen:(Bq v).run P w=.ok m w)
  (hfc:(AD i.size m v).run P w=.ok news.toArray w) :
  ∃w',(A2 #[T,T2] ty #[.slice (some ⟨b,0,none⟩) n cap,v]).run P w=.ok (.slice (some ⟨b,0,none⟩) (n+m) cap) w'∧w'.os=w.os∧w'.output=w.output∧w'.tape=w.tape∧Wr w.heap w'.heap ⟨b,n*i.size,none⟩ news:=by
 have hz0':(match u2 with|TypeDesc.int _=>true|_=>false)=false:=by cases u2 <;> first|rfl|(rename_i k';exact absurd rfl (hu2 k'))
 obtain⟨w',q1,q2,q3,q4,q5,q6⟩:=a2h (P:=P) news 0 w ⟨b,n*i.size,none⟩ c rfl hblk (by simp only;rw[hm,Nat.add_zero,←AA];exact hfit) h1;have hadd:(⟨b,0,none⟩:Addr).add (n*i.size)=⟨b,n*i.size,none⟩:=by rw[a8j rfl];simp
 refine⟨w',?_,q2,q3,q4,q6⟩;simp[A2,An ht,An h2,sizeOf,typeInfo,hi,hlen,hz0',hroomy,hfc,hadd,q1]
theorem b4n{T T2 ty el:TypeId}{i:TypeInfo}(ht:P.underlying T=some (.slice el))(hi:P.info? el=some i){b off dl dc m k:Nat}{c:Array Value}{news:List Value}{v:Value}
  (hblk:Blk w.heap b c) (hk:k=Nat.min m dl) (hfit:off+k*i.size≤c.size) (hm:news.length=k*i.size) (h1:∀v,v∈news→v.oneCell'=true) (hlen:(Bq v).run P w=.ok m w)
  (hfc:(AD i.size k v).run P w=.ok news.toArray w) :
  ∃w',(AP #[T,T2] ty #[.slice (some ⟨b,off,none⟩) dl dc,v]).run P w=.ok (goInt k) w'∧w'.os=w.os∧w'.output=w.output∧w'.tape=w.tape∧Wr w.heap w'.heap ⟨b,off,none⟩ news:=by
 obtain⟨w',q1,q2,q3,q4,q5,q6⟩:=a2h (P:=P) news 0 w ⟨b,off,none⟩ c rfl hblk (by simp only;rw[hm];exact hfit) h1;refine⟨w',?_,q2,q3,q4,q6⟩;simp[AP,An ht,sizeOf,typeInfo,hi,hlen,←hk,hfc,q1]
theorem c1r{T ty el:TypeId}{z:Value}{sz:Nat}(ht:P.underlying T=some (.slice el))(hz:∀w,(zeroValue el).run P w=.ok z w)(hzs:z.cells.size=sz)(hz1:∀v,v∈z.cells.toList→v.oneCell'=true){b off n cap:Nat}{c:Array Value}
  (hblk:Blk w.heap b c) (hn:0<n) (hfit:off+n*sz≤c.size) :
  ∃w' news,(B3 #[T] ty #[.slice (some ⟨b,off,none⟩) n cap]).run P w=.ok (.tuple #[]) w'∧w'.os=w.os∧w'.output=w.output∧w'.tape=w.tape∧news.length=n*sz∧Wr w.heap w'.heap ⟨b,off,none⟩ news:=by
 have hlen:(B1 z.cells n).toList.length=n*sz:=by simp[Et,hzs]
 obtain⟨w',q1,q2,q3,q4,q5,q6⟩:=a2h (P:=P) (B1 z.cells n).toList 0 w ⟨b,off,none⟩ c rfl hblk (by simp only;rw[hlen];exact hfit) (fun v hv=>by
  obtain⟨j,hj,rfl⟩:=List.getElem_of_mem hv;simp only[B1,Array.getElem_toList];refine hz1 _ ?_;rw[Array.mem_toList_iff];rw[hlen] at hj;have hp:0<z.cells.size:=by
   rw[hzs];rcases D9 sz with h|h
   ·simp[h] at hj
   ·exact h
  simp only[Array.getElem_map,Array.getElem_range];rw[getElem!_pos z.cells _ (Nat.mod_lt _ hp)];exact Array.getElem_mem _)
 refine⟨w',_,?_,q2,q3,q4,hlen,q6⟩;obtain⟨m,rfl⟩:∃m,n=m+1:=⟨n - 1,by omega⟩
 simp[B3,An ht,hz,q1]
end Go.Rb

namespace Go.Rb
variable {A:Amb} {P:Program} {C:Ctx} {w w':World} {Z Z':Nat→Prop} {h h':Array Obj}
theorem c2f(n i:Nat):(As n ([]:List Nat)).getD i []=[]:=by
 rw[BF,List.getElem?_replicate];split <;> rfl
theorem c5f(n:Nat):(As n ([]:List Nat)).flatten=[]:=by induction n <;> simp_all [List.replicate_succ]
theorem c6u{te:Ty}{e:Nat}{l:List te.den}{b n cap:Nat}{c:Array Value}(hn:n=l.length)(hcap:n≤cap)(hb:n*e≤room)(hr:n≤room)(hblk:BlkE e h b c)(hc:c.size=cap*te.size)
  (hel:∀i (hi:i<l.length),Rep A P te Z h (seg c.toList (i*te.size) te.size) l[i] []):Rep A P (.sl .own e te) Z h [.slice (some ⟨b,0,none⟩) n cap] l [b] :=
 ⟨_,_,_,rfl,hn,hcap,hb,hr,.inr ⟨b,c,As l.length [],rfl,hblk,hc,by rw[c5f],by simp,fun i hi=>by rw[c2f];exact hel i hi⟩⟩
theorem b9n{te:Ty}(hp:te.pure=true){e:Nat}{l:List te.den}{cs:List Value}{fp:List Nat}(hr:Rep A P (.sl .own e te) Z h cs l fp) :
  (cs=[.slice none 0 0]∧l=[]∧fp=[])∨∃b n cap c,cs=[.slice (some ⟨b,0,none⟩) n cap]∧n=l.length∧n≤cap∧n*e≤room∧n≤room∧BlkE e h b c∧c.size=cap*te.size∧fp=[b] ∧
   ∀i (hi:i<l.length),Rep A P te Z h (seg c.toList (i*te.size) te.size) l[i] []:=by
 obtain⟨a,n,cap,rfl,h1,h2,h3,h4,h5⟩:=hr;rcases h5 with⟨rfl,rfl,rfl,rfl⟩|⟨b,c,fps,rfl,g1,g2,rfl,g4,g5⟩
 ·simp at h1;subst h1;exact .inl ⟨rfl,rfl,rfl⟩
 ·have hnil:∀i (hi:i<l.length),fps.getD i []=[]:=fun i hi=>a1y (g5 i hi) hp
  have hfl:fps=As l.length []:=by
   apply List.ext_getElem
   ·simp[g4]
   ·intro i hi hi2;have:=hnil i (by omega);rw[BF,Bb hi] at this;simpa using this
  refine .inr ⟨b,n,cap,c,rfl,h1,h2,h3,h4,g1,g2,by rw[hfl,c5f],fun i hi=>?_⟩;have:=g5 i hi;rwa [hnil i hi] at this
theorem f5g{te:Ty}{e:Nat}{l:List te.den}{cs:List Value}{fp:List Nat}(hr:Rep A P (.sl .imm e te) Z h cs l fp) :
  fp=[]∧∃a n cap,cs=[.slice a n cap]∧n=l.length∧n≤cap∧n*e≤room∧n≤room∧(n=0∨∃ad cells,a=some ad∧Z ad.block∧Row h ad (n*te.size) cells) ∧
   ∃news:List Value,news.length=n*te.size∧(∀i (hi:i<l.length),Rep A P te Z h (seg news (i*te.size) te.size) l[i] [])∧(∀ad,a=some ad→∀j v,news[j]?=some v→∃hz:∀(w:World),w.heap=h→w.cell? (ad.add j)=some v,True):=by
 obtain⟨a,n,cap,rfl,h0,h1,h2,h3,h4,h5⟩:=hr;refine⟨h0,a,n,cap,rfl,h1,h2,h3,h4,?_⟩;rcases h5 with rfl|⟨ad,cells,rfl,g1,g2,g3⟩
 ·simp at h1;subst h1;exact⟨.inl rfl,[],by simp,fun i hi=>by simp at hi,fun ad _ j v hj=>by simp at hj⟩
 ·refine⟨.inr ⟨ad,cells,rfl,g1,g2⟩,cells,g2.2.1,g3,fun ad' had j v hj=>?_⟩;cases had;exact⟨fun w hw=>Row.cell (w:=w) (by rw[hw];exact g2) j v hj,trivial⟩
theorem a8i{m:Md}{e:Nat}{te:Ty}{a:Option Addr}{n cap:Nat}:VC (.sl m e te) (.slice a n cap) [.slice a n cap]:=by
 unfold VC;rw[if_neg (by simp[Ty.agg])];exact⟨rfl,by simp⟩
theorem b4e{t:Ty}{v:Value}{cs:List Value}{x:t.den}{fp:List Nat}(hv:VC t v cs)(hr:Rep A P t Z h cs x fp):c7r A P Z h [.val t] v (x,()) fp :=
 ⟨[v],⟨v,[],fp,[],rfl,⟨cs,hv,hr⟩,⟨rfl,rfl⟩,by simp⟩,by simp⟩
theorem e7b{vs:Array Value}{v:Value}(h:vs.toList=[v]):vs=#[v]:=by
 cases vs;simp at h;subst h;rfl
theorem c4b{vs:Array Value}{v u:Value}(h:vs.toList=[v,u]):vs=#[v,u]:=by
 cases vs;simp at h;subst h;rfl
theorem c5i{vs:Array Value}{v u t:Value}(h:vs.toList=[v,u,t]):vs=#[v,u,t]:=by
 cases vs;simp at h;subst h;rfl
theorem b0x{f:FuncId}{T e:Nat}{te:Ty}(htab:a3c P C)(hT:C.ty T=some (.sl .imm e te)){z:List Value}(hz:zeroCells te=some z)
  (hnil:∀(w:World) n cap,Calls P f #[.slice none n cap] w fun e w'=>e=.returned (.slice none 0 0)∧w'=w)
  (hsome:∀(w w':World) (el:TypeId) (ad:Addr) (n cap:Nat) (v':Value),P.underlying T=some (.slice el)→(A2 #[T,T] T #[.slice (some ⟨w.heap.size,0,none⟩) 0 0,.slice (some ad) n cap]).run P (w.alloc (.cells #[] el))=.ok v' w' →
   Calls P f #[.slice (some ad) n cap] w fun e w''=>e=.returned v'∧w''=w') :
  a6z A P C f ⟨[.val (.sl .imm e te)],[.val (.sl .own e te)]⟩ fun x=>some ((x.1,()),()):=by
 intro x y hy Z w vs fp hglob hzb hargs hnd hdis;cases hy;obtain⟨v,vs',cs,f1,f2,hvs,hvc,hrep,⟨rfl,rfl⟩,rfl⟩:=hargs;obtain rfl:=e7b hvs;obtain⟨rfl,a,n,cap,rfl,hn,hncap,hb,hroom,hrow,news,hnl,hel,hcell⟩:=f5g hrep;obtain rfl:=a0n rfl hvc;obtain⟨el,i,q1,q2,q3,q4,q5,q6,q7,q8,q9⟩:=a9v htab hT;obtain⟨i',dd,p1,p2,p3,p4,p5⟩:=(htab _ _ q2).ex;rw[q3] at p1;obtain rfl:=Ag p1;obtain⟨zv,p6,p7⟩:=p5 z hz;have hzs:zv.cells.size=i.size:=by
  have h1:=a6t p7;have h2:=a1j (a6f (A:=A) (P:=P) (Z:=Z) (h:=w.heap) hz);rw[←AN,h1,h2,q9]
 cases a with
 |none =>
  refine(hnil w n cap).mono fun en w' ⟨he,hw⟩=>?_
  subst hw;have hx:x.1=[]:=by
   rcases hrow with h0|⟨ad,_,h0,_⟩
   ·exact Bm (by omega)
   ·cases h0
  refine⟨_,Z,[],[],he,?_,rfl,⟨fun b=>id,Ar _,fun _ _ _=>rfl,fun b hb=>.inl hb,by simp,rfl,rfl,rfl,hzb,by simp,by simp,by simp⟩⟩;refine b4e a8i ?_;rw[hx];exact⟨none,0,0,rfl,rfl,Ar _,by simp,by simp,.inl ⟨rfl,rfl,rfl,rfl⟩⟩
 |some ad =>
  have hlt:∀ad' cells,(some ad:Option Addr)=some ad'∧Z ad'.block∧Row w.heap ad' (n*te.size) cells→ad.block<w.heap.size:=fun ad' cells h=>by
   obtain⟨h1,h2,_⟩:=h;cases h1;exact hzb _ h2
  let w1:World:=w.alloc (.cells #[] el)
  have hblk1:Blk w1.heap w.heap.size #[]:=⟨el,(0,0),by show(w.heap.push (.cells #[] el))[w.heap.size]?=_;simp,by simp⟩
  have hnm1:∀b0,(some ⟨w.heap.size,0,none⟩:Option Addr)=some ⟨b0,0,none⟩→NoMk w1.heap b0:=fun b0 h0=>by
   cases h0;intro c' el' fr' h;have h:(w.heap.push (.cells #[] el))[w.heap.size]?=some (.cells c' el' fr'):=h;simp at h;obtain⟨rfl,rfl,rfl⟩:=h;simp
  have hh1:∀k,k<w.heap.size→w1.heap[k]?=w.heap[k]?:=fun k hk=>by
   show(w.heap.push (.cells #[] el))[k]?=_;rw[Array.getElem?_push,if_neg (by omega)]
  have hsz1:w1.heap.size=w.heap.size+1:=by show(w.heap.push (.cells #[] el)).size=_;simp
  have hone:∀v,v∈news→v.oneCell'=true:=by
   intro v hv;obtain⟨j,hj,hv⟩:=c1h hnl hv;exact a5q (hel j (by omega)) v hv
  have hfc:∀w':World,w'.heap=w1.heap→(AD i.size n (.slice (some ad) n cap)).run P w'=.ok news.toArray w':=fun w' hw'=>by
   refine CH w' i.size n _ n cap _ (by rw[q9];exact hnl) ?_;rcases hrow with h0|⟨ad',cells,h0⟩
   ·subst h0;have:news=[]:=Bm (by omega);subst this;simp
   ·intro j v hj;have hlt:=hlt ad' cells h0;obtain⟨hc,_⟩:=hcell ad rfl j v hj;have hc:=hc w rfl;have:(ad.add j).block=ad.block:=by
     unfold Addr.add;split <;> rfl
    unfold C5 at hc ⊢;rw[this] at hc ⊢;rw[hw',hh1 _ hlt];exact hc
  obtain⟨v',w',g1,g2,g3,g4,g5,g6,g7⟩:=b4w (P:=P) (w:=w1) (T:=T) (T2:=T) (ty:=T) (v:=.slice (some ad) n cap) (base:=some ⟨w.heap.size,0,none⟩) (n:=0) (cap:=0) (m:=n) (cs:=[]) (news:=news) q1 q1 (by simp) q3 p6 hzs
   (by omega) (.inr ⟨_,#[],rfl,hblk1,by simp,Ar _,by simp⟩) (by rw[q9];exact hnl) hone (fun w=>by simp[Bq]) hfc (by rw[q4,EW];exact hb)
  refine(hsome w w' el ad n cap v' q1 g1).mono fun en w'' ⟨he,hw⟩=>?_
  subst hw;rcases g7 with⟨_,_,h0,_⟩|⟨b',c',cap',rfl,v1,v2,v3,v4,v5,v6⟩
  ·cases h0
  ·rw[EW] at v3 v5 he;rw[q9] at v2 v5;rw[B5] at v5;have hb':w.heap.size≤b':=by
    rcases v4 with h|h
    ·cases h;exact Ar _
    ·omega
   have hkeep:∀b,b<w.heap.size→w''.heap[b]?=w.heap[b]?:=fun b hb=>by
    rw[g6 b (by omega) (by intro h;cases h;omega),hh1 b hb]
   have hblt:b'<w''.heap.size:=v1.lt;refine⟨_,Z,[b'],[],he,b4e a8i (c6u hn v3 hb hroom ⟨v1,fun _=>v6 hnm1⟩ v2 fun k hk=>?_),rfl,⟨fun b=>id,by omega,fun b hb _=>hkeep b hb,fun b hb=>.inl hb,fun b hb=>.inr (by simp at hb;omega),g2,g3,g4,fun b hb=>by have:=hzb b hb;omega,fun b hb=>by simp at hb;omega,fun b hb hz=>by simp at hb;subst hb;have:=hzb _ hz;omega,by simp⟩⟩;have hle:k*te.size+te.size≤n*te.size:=by rw[←AC];exact Ai _ (by omega)
   rw[←b0k hle,v5];exact a0g (hel k hk) (fun b=>id) fun b hb=>hb.elim (fun hb=>hkeep b (hzb b hb)) (by simp)
theorem Blk.cell{b:Nat}{c:Array Value}(hb:Blk w.heap b c)(o:Nat):w.cell? ⟨b,o,none⟩=c[o]?:=by
 obtain⟨el,fr,h1,_⟩:=hb;simp[C5,h1]
theorem Wr.oth2{ad:Addr}{ys:List Value}(hw:Wr h h' ad ys):(∀b,b≠ad.block→h'[b]?=h[b]?)∧h'.size=h.size:=by
 obtain⟨_,_,_,_,_,_,_,_,_,h1,h2⟩:=hw;exact⟨h1,h2⟩
theorem b1i{b o n sz cap:Nat}{c:Array Value}{ad:Addr}(hb:Blk w.heap b c)(ho:o+n*sz≤c.size)(had:n*sz≠0→ad=⟨b,o,none⟩) :
  (AD sz n (.slice (some ad) n cap)).run P w=.ok (seg c.toList o (n*sz)).toArray w:=by
 have hl:(seg c.toList o (n*sz)).length=n*sz:=a3w (by simpa using ho);refine CH w sz n _ n cap _ hl fun j v hj=>?_
 have hjl:j<n*sz:=by
  rw[←hl];exact(List.getElem?_eq_some_iff.1 hj).1
 obtain rfl:=had (by omega);rw[a8j rfl,hb.cell];simp only[seg,List.getElem?_take,hjl,if_true,List.getElem?_drop,Array.getElem?_toList] at hj;exact hj
def delF(te:Ty)(x:List te.den×Int×Int×Unit):Option ((List te.den×Unit)×Unit) :=
 if 0≤x.2.1∧x.2.1≤x.2.2.1∧x.2.2.1≤x.1.length then some ((x.1.take x.2.1.toNat++x.1.drop x.2.2.1.toNat,()),()) else none
theorem b7t{f:FuncId}{T e:Nat}{te:Ty}(htab:a3c P C)(hT:C.ty T=some (.sl .imm e te)){z:List Value}(hz:zeroCells te=some z)
  (heq:∀(w:World) a n cap (i:Nat),i≤n→n≤cap→Calls P f #[.slice a n cap,.int .i64 i,.int .i64 i] w fun e w'=>e=.returned (.slice a n cap)∧w'=w)
  (hlt:∀(w W1 W2:World) (b n cap i j k:Nat),i<j→j≤n→n≤cap→k<n →
   (A2 #[T,T] T #[.slice (some ⟨b,0,none⟩) i cap,.slice (if cap=j then some ⟨b,0,none⟩ else some ⟨b,j*te.size,none⟩) (n - j) (cap - j)]).run P w.drew=.ok (.slice (some ⟨b,0,none⟩) k cap) W1 →
   (B3 #[T] 0 #[.slice (some ⟨b,k*te.size,none⟩) (n - k) (cap - k)]).run P W1=.ok (.tuple #[]) W2 →
   Calls P f #[.slice (some ⟨b,0,none⟩) n cap,.int .i64 i,.int .i64 j] w fun e w'=>e=.returned (.slice (some ⟨b,0,none⟩) k cap)∧w'=W2) :
  a6z A P C f ⟨[.val (.sl .own e te),.val (.int .i64),.val (.int .i64)],[.val (.sl .own e te)]⟩ (delF te):=by
 intro x y hy Z w vs fp hglob hzb hargs hnd hdis;unfold delF at hy;split at hy
 ·rename_i hcond;obtain⟨c1,c2,c3⟩:=hcond;cases hy;obtain⟨l,i,j,u⟩:=x;dsimp only at *;obtain⟨v,vs',cs,f1,f2,hvs,hvc,hrep,⟨v2,vs2,cs2,f3,f4,hvs2,hvc2,hrep2,⟨v3,vs3,cs3,f5,f6,hvs3,hvc3,hrep3,⟨rfl,rfl⟩,rfl⟩,rfl⟩,rfl⟩:=hargs;obtain⟨rfl,rfl,_,_⟩:=hrep2;obtain⟨rfl,rfl,_,_⟩:=hrep3;obtain rfl:=a0n rfl hvc2;obtain rfl:=a0n rfl hvc3;subst hvs3 hvs2;obtain rfl:=c5i hvs;obtain⟨el,ti,q1,q2,q3,q4,q5,q6,q7,q8,q9⟩:=a9v htab hT;obtain⟨ti',dd,p1,p2,p3,p4,p5⟩:=(htab _ _ q2).ex;rw[q3] at p1;obtain rfl:=Ag p1;obtain⟨zv,p6,p7⟩:=p5 z hz;have hzs:zv.cells.size=te.size:=by
   have h1:=a6t p7;have h2:=a1j (a6f (A:=A) (P:=P) (Z:=Z) (h:=w.heap) hz);rw[←AN,h1,h2]
  have hz1:∀v,v∈zv.cells.toList→v.oneCell'=true:=fun v hv=>by
   rw[a6t p7] at hv;exact a5q (a6f (A:=A) (P:=P) (Z:=Z) (h:=w.heap) hz) v hv
  have hzv:∀w:World,(zeroValue el).run P w=.ok zv w:=fun w=>by
   simp[zeroValue,typeInfo,q3,p6]
  simp only[A9] at hnd hdis ⊢;obtain⟨i',rfl⟩:∃i':Nat,i=(i':Int):=⟨i.toNat,(B4 c1).symm⟩
  obtain⟨j',rfl⟩:∃j':Nat,j=(j':Int):=⟨j.toNat,(B4 (Int.le_trans c1 c2)).symm⟩
  replace c2:(i':Int)≤(j':Int):=c2;replace c3:(j':Int)≤(l.length:Int):=c3;dsimp only at hrep;simp only[Ah];by_cases hij:i'=j'
  ·subst hij;have hl:l.take i'++l.drop i'=l:=Bw _ _;rw[hl];have hfin:∀a n cap,cs=[.slice a n cap]→i'≤n→n≤cap→Calls P f #[v,.int .i64 i',.int .i64 i'] w fun en w'=>∃v Z' fr fi,en=.returned v∧c7r A P Z' w'.heap [.val (.sl .own e te)] v (l,()) fr∧b0u A P Z' w'.heap [.val (.sl .own e te),.val (.int .i64),.val (.int .i64)] [v,.int .i64 i',.int .i64 i'] () fi∧Step Z w f1 Z' w' (fr++fi):=by
    rintro a n cap rfl h1 h2;obtain rfl:=a0n rfl hvc;refine(heq w a n cap i' h1 h2).mono fun en w' ⟨he,hw⟩=>?_
    subst hw;refine⟨_,Z,f1,[],he,b4e a8i hrep,rfl,?_⟩;rw[A9];exact⟨fun b=>id,Ar _,fun _ _ _=>rfl,fun b hb=>.inl hb,fun b hb=>.inl hb,rfl,rfl,rfl,hzb,fun b hb=>b2q hrep b hb,hdis,hnd⟩
   rcases b9n q6 hrep with⟨h1,h2,h3⟩|⟨b,n,cap,c,h1,h2,h3,_⟩
   ·subst h2;exact hfin _ _ _ h1 (by simp at c3;omega) (Ar _)
   ·exact hfin _ _ _ h1 (by omega) h3
  ·rcases b9n q6 hrep with⟨h1,h2,h3⟩|⟨b,n,cap,c,rfl,hn,hcap,hb,hroom,hblk,hc,rfl,hel⟩
   ·subst h2;simp at c3;omega
   obtain rfl:=a0n rfl hvc;have hjn:j'≤n:=by omega
   have hmul:∀a b:Nat,a≤b→a*te.size≤b*te.size:=fun a b h=>Ai _ h
   have hd:Blk w.drew.heap b c:=hblk.blk;have hsrcl:j'*te.size+(n - j')*te.size=n*te.size:=by rw[←AA];congr 1;omega
   have hnc:=hmul n cap hcap;have hnews:(seg c.toList (j'*te.size) ((n - j')*te.size)).length=(n - j')*te.size:=a3w (by simp;omega);have hkn:i'+(n - j')<n:=by omega
   have hone:∀v,v∈seg c.toList (j'*te.size) ((n - j')*te.size)→v.oneCell'=true:=fun v hv=>by
    obtain⟨q,hq,hv⟩:=c1h hnews hv;have hq2:q*te.size+te.size≤(n - j')*te.size:=by rw[←AC];exact hmul _ _ hq
    rw[a9u hq2,←AA] at hv;exact a5q (hel (j'+q) (by omega)) v hv
   obtain⟨W1,a1,a2,a3,a4,a5⟩:=d0n (P:=P) (w:=w.drew) (T:=T) (T2:=T) (ty:=T) (v:=.slice (if cap=j' then some ⟨b,0,none⟩ else some ⟨b,j'*te.size,none⟩) (n - j') (cap - j')) (n:=i') (cap:=cap) (m:=n - j') q1 q1 (by simp) q3 hd
    (by rw[q9,hc];exact hmul _ _ (by omega)) (by omega) (by omega) (by rw[q9];exact hnews) hone (by simp[Bq])
    (by
     rw[q9];by_cases hcj:cap=j'
     ·rw[if_pos hcj];exact b1i hd (by rw[hc];omega) (fun h=>absurd (show(n - j')*te.size=0 by rw[show n - j'=0 by omega];simp) h)
     ·rw[if_neg hcj];exact b1i hd (by rw[hc];omega) (fun _=>rfl))
   rw[q9] at a5;obtain⟨cc,k1,k2,k3,k4⟩:=a5.blk hd;have hkeq:(i'+(n - j'))*te.size+(n - (i'+(n - j')))*te.size=n*te.size:=by rw[←AA];congr 1;omega
   obtain⟨W2,news2,b1,b2,b3,b4,b5,b6⟩:=c1r (P:=P) (w:=W1) (T:=T) (ty:=0) (n:=n - (i'+(n - j'))) (cap:=cap - (i'+(n - j'))) (off:=(i'+(n - j'))*te.size) q1 hzv hzs hz1 k1 (by omega) (by rw[k4,hc];omega);obtain⟨c2',m1,m2,m3,m4⟩:=b6.blk k1;refine(hlt w W1 W2 b n cap i' j' (i'+(n - j')) (by omega) hjn hcap hkn a1 b1).mono fun en w' ⟨he,hw⟩=>?_
   subst hw;have hoth:∀k,k≠b→w'.heap[k]?=w.heap[k]?:=fun k hk=>by
    rw[(b6.oth2).1 k hk,(a5.oth2).1 k hk];rfl
   have hsz:w'.heap.size=w.heap.size:=by rw[(b6.oth2).2,(a5.oth2).2];rfl
   have hll:(l.take i'++l.drop j').length=i'+(n - j'):=by
    simp only[Ac,A7,B8];omega
   refine⟨_,Z,[b],[],he,b4e a8i (c6u hll.symm (by omega) (AM (Ai _ (by omega)) hb) (by omega) ⟨m1,fun he=>b6.nm (a5.nm (hblk.nm he))⟩ (by rw[m4,k4,hc]) fun q hq=>?_),rfl,⟨fun b=>id,Nat.le_of_eq hsz.symm,fun k hk hkb=>hoth k (by simpa using hkb),fun b hb=>.inl hb,fun b hb=>.inl hb,by rw[b2,a2];rfl,by rw[b3,a3];rfl,by rw[b4,a4];rfl,fun b hb=>by rw[hsz];exact hzb b hb,fun b hb=>by rw[hsz];exact b2q hrep b hb,hdis,by simp⟩⟩;rw[hll] at hq;have hq2:q*te.size+te.size≤(i'+(n - j'))*te.size:=by rw[←AC];exact hmul _ _ hq
   have hc1l:cc.toList.length=cap*te.size:=by simp[k4,hc]
   have hcl:c.toList.length=cap*te.size:=by simp[hc]
   rw[m2,a1z (by rw[hc1l,b5];omega) (.inl hq2),k2];have hmono:∀{cs:List Value} {y:te.den},Rep A P te Z w.heap cs y []→Rep A P te Z w'.heap cs y []:=fun hr=>a0g hr (fun b=>id) fun k hk=>hk.elim (fun hk=>hoth k fun hkb=>hdis b (by simp) (hkb ▸ hk)) (by simp)
   by_cases hqi:q<i'
   ·have hq3:q*te.size+te.size≤i'*te.size:=by rw[←AC];exact hmul _ _ hqi
    have hi3:=hmul i' n (by omega);have hi4:=hmul (i'+(n - j')) n (by omega);rw[AA] at hi4;rw[a1z (by rw[hnews,hcl];omega) (.inl hq3)];rw[BK (by simp;omega),Cq];exact hmono (hel q (by omega))
   ·have hi4:=hmul (i'+(n - j')) n (by omega);rw[AA] at hi4;have e1:q*te.size=i'*te.size+(q - i')*te.size:=by rw[←AA];congr 1;omega
    have e2:(q - i')*te.size+te.size≤(n - j')*te.size:=by rw[←AC];exact hmul _ _ (by omega)
    rw[e1,←a9u e2,a3s hnews (by rw[hcl];omega),a9u e2,←AA];rw[Br (by simp;omega)];simp only[A7,D8,show min i' l.length=i' by omega];exact hmono (hel (j'+(q - i')) (by omega))
 ·simp at hy
end Go.Rb

namespace Go.Rb
variable {A:Amb} {P:Program} {C:Ctx} {w w':World} {Z Z':Nat→Prop} {h h':Array Obj}
theorem c8x{T T2 ty el:TypeId}{i:TypeInfo}{z:Value}(ht:P.underlying T=some (.slice el))(h2:P.underlying T2=some (.int .i64))(hi:P.info? el=some i)(hz:i.zero=some z)
  (hzs:z.cells.size=i.size) (hby:1≤i.bytes) {b n cap k:Nat} {c:Array Value} (hb:Blk w.heap b c) (hfit:n*i.size≤c.size) (hn:n≤cap) (hfull:cap<n+k) (hroom:(n+k)*i.bytes≤room) :
  ∃w' cap' c',(A2 #[T,T2] ty #[.slice (some ⟨b,0,none⟩) n cap,.int .i64 (k:Int)]).run P w=.ok (.slice (some ⟨w.heap.size,0,none⟩) (n+k) cap') w'∧w'.os=w.os∧w'.output=w.output∧w'.tape=w.tape∧w'.heap.size=w.heap.size+1 ∧
   (∀b,b<w.heap.size→w'.heap[b]?=w.heap[b]?)∧BlkE 0 w'.heap w.heap.size c'∧c'.size=cap'*i.size∧n+k≤cap'∧c'.toList.take (n*i.size)=c.toList.take (n*i.size):=by
 have hnm:n+k≤room:=AM (BB _ hby) hroom;have h63:¬(9223372036854775807<((n:Int)+(k:Int))):=by unfold room at hnm;omega
 have hkr:k*i.bytes≤room:=AM (Ai _ (by omega)) hroom;have hwk:Aa.wrap (k:Int)=(k:Int):=by
  unfold room at hnm;simp only[Bh,Bi,AX,if_true];simp;split <;> omega
 have hk0:¬((k:Int)<0):=by omega
 have hk48:¬(281474976710656<(k:Int)*(i.bytes:Int)):=by
  have:(k:Int)*(i.bytes:Int)=((k*i.bytes:Nat):Int):=by simp
  rw[this];unfold room at hkr;omega
 have h48:¬(281474976710656<Builtin.nextslicecap (n+k) cap*i.bytes):=by
  have:=growslice_fits (need:=n+k) (old:=cap) (bytes:=i.bytes) (by omega) hroom;omega
 let w1:World:=w.drew
 have hw1:w1.heap=w.heap:=rfl;have hcl:(c.toList.take (n*i.size)).length=n*i.size:=by simp;omega
 have hold:(AD i.size n (.slice (some ⟨b,0,none⟩) n cap)).run P w1=.ok (c.toList.take (n*i.size)).toArray w1:=by
  refine CH w1 i.size n _ n cap _ hcl ?_;exact Row.cell (w:=w1) (hb.row hfit)
 have hge:=grownCap_ge w (n+k) cap el
 let mid:Array Value:=if k*i.size=0 then #[] else B1 z.cells k
 have hmid:mid.size=k*i.size:=by
  simp only[mid];split
  ·rename_i h0;simp[h0]
  ·rw[Et,hzs]
 let cells:Array Value:=(c.toList.take (n*i.size)).toArray++mid++B1 z.cells (grownCap w (n+k) cap el - (n+k))
 have hcells:cells.size=grownCap w (n+k) cap el*i.size:=by
  simp only[cells,Array.size_append,List.size_toArray,Et,hzs,hcl,hmid,←AA];congr 1;omega
 obtain⟨w',q1,q2,q3,q4,q5,q6,q7⟩:=a4m (P:=P) (w:=w1) el cells;refine⟨w',grownCap w (n+k) cap el,cells,?_,q2,q3,q4,by rw[q5,hw1],fun b hb=>q6 b hb,q7,hcells,hge,?_⟩
 ·have hnr:¬(n+k≤cap):=by omega
  simp only[w1] at hold q1;by_cases hks:k*i.size=0
  ·have hm0:mid=#[]:=by simp only[mid,hks,if_true]
   simp only[cells,hm0,grownCap,BD,Array.append_empty,Array.empty_append] at q1;simp[A2,An ht,An h2,sizeOf,typeInfo,zeroValue,hi,hz,asInt,asIntOf,hwk,hk0,hk48,hnr,h63,h48,Ds,hold,hks];simp only[grownCap,BD] at q1 ⊢;rw[q1];rfl
  ·have hm0:mid=B1 z.cells k:=by simp only[mid,hks,if_false]
   simp only[cells,hm0,grownCap,BD] at q1;simp[A2,An ht,An h2,sizeOf,typeInfo,zeroValue,hi,hz,asInt,asIntOf,hwk,hk0,hk48,hnr,h63,h48,Ds,hold,hks];simp only[grownCap,BD] at q1 ⊢;rw[q1];rfl
 ·simp only[cells,Array.toList_append,List.append_assoc];rw[List.take_append_of_le_length (by rw[hcl];exact Ar _),List.take_of_length_le (by rw[hcl];exact Ar _)]
theorem c5s{tS tR el:TypeId}(ht:P.underlying tS=some (.slice el)){sz:Nat}(hz:∀w,(Go.sizeOf el).run P w=.ok sz w){a:Addr}{b o la ca lb cb:Nat}{c:Array Value}(hne:a.block≠b)
  (hb:Blk w.heap b c) (hnm:NoMk w.heap b) (ho:o<c.size) {tA kA:Nat} (hsa:w.shape? a.block=some (tA,kA)) (hkA:kA≠0) :
  (Ba #[tS,tS] #[tR] #[.slice (some a) la ca,.slice (some ⟨b,o,none⟩) lb cb]).run P w=.ok (.bool false) w:=by
 obtain⟨el',fr,h1,_,h2⟩:=hb;have hsb:w.shape? b=some (el',c.size):=by simp[FU,h1]
 have hfb:w.frozen? ⟨b,o,none⟩=false:=by
  have:=h2 o ho;obtain⟨f1,f2⟩:=fr;simp only[FJ,h1];simp at this ⊢;omega
 have hfe:w.frozen? ⟨b,c.size,none⟩=false:=by
  have:=hnm c el' fr h1;obtain⟨f1,f2⟩:=fr;simp only[FJ,h1];simp at this ⊢;omega
 have hnb:(a.block != b)=true:=by simpa using hne
 have hnb':(a.block==b)=false:=by simpa using hne
 change Sem.run P (α:=Value) (do
  let some t := (#[tS, tS] : Array TypeId)[0]? | stuck "slices.overlaps: no parameter types"
  let .slice elem ← underlying t | stuck "slices.overlaps: slice type expected"
  let size ←sizeOf elem
  match(some a:Option Addr),(some (⟨b,o,none⟩:Addr):Option Addr) with
  |some a,some b =>
   if la=0∨lb=0∨size=0 then pure (EP false)
   else if a.block != b.block&&(←frozen a)&&(←frozen b) then unsupported .addressObserved
   else do
    if a.block != b.block then do
     noView a;noView b
     if ← mayBeOne a b then return Value.bool ((← choose (.extern "sameAddr.stringBytes" 2)) == 1)
    pure (EP (a.block==b.block&&a.off<b.off+lb*size&&b.off<a.off+la*size))
  |_,_=>pure (EP false)) w=_
 by_cases h0:la=0∨lb=0∨sz=0
 ·simp[An ht,hz,h0]
 ·cases kA with
  |zero=>exact absurd rfl hkA
  |succ kA =>
   cases hfa:w.frozen? a <;> cases hfk:w.frozen? ⟨a.block,kA+1,none⟩ <;>
    simp[An ht,hz,h0,hnb,hnb',frozen,noView,viewAt,mayBeOne,stringish,shape,Sem.run,hsa,hsb,hfa,hfb,hfe,hfk]
def insF(e:Nat)(te:Ty)(x:List te.den×Int×List te.den×Unit):Option ((List te.den×Unit)×Unit) :=
 if 0≤x.2.1∧x.2.1≤x.1.length∧(x.1.length+x.2.2.1.length)*e≤room then some ((x.1.take x.2.1.toNat++(x.2.2.1++x.1.drop x.2.1.toNat),()),()) else none
theorem c9z{te:Ty}{l v:List te.den}{i n m:Nat}{cF:List Value}(hn:n=l.length)(hm:m=v.length)(hi:i≤n){Q:List Value→te.den→Prop}
  (h1:∀q (hq:q<i),Q (seg cF (q*te.size) te.size) (l[q]'(by omega))) (h2:∀q (hq:q<m),Q (seg cF ((i+q)*te.size) te.size) (v[q]'(by omega)))
  (h3:∀q (hq:q<n - i),Q (seg cF ((i+m+q)*te.size) te.size) (l[i+q]'(by omega))) :
  ∀q (hq:q<(l.take i++(v++l.drop i)).length),Q (seg cF (q*te.size) te.size) ((l.take i++(v++l.drop i))[q]):=by
 subst hn hm;intro q hq;simp only[Ac,A7,B8] at hq;have htl:(l.take i).length=i:=by simp;omega
 by_cases hqi:q<i
 ·rw[BK (by omega),Cq];exact h1 q hqi
 ·rw[Br (by omega)];by_cases hqm:q<i+v.length
  ·rw[BK (by omega)];have:=h2 (q - i) (by omega);rw[show i+(q - i)=q by omega] at this;simpa only[htl] using this
  ·rw[Br (by omega),D8];have:=h3 (q - i - v.length) (by omega);rw[show i+v.length+(q - i - v.length)=q by omega] at this;simpa only[htl] using this
theorem g0s{cs ys:List Value}{o n a sz:Nat}(hl:ys.length=n*sz)(ho:o+n*sz≤cs.length)(ha:a<n):seg (a1d cs o ys) (o+a*sz) sz=seg ys (a*sz) sz:=by
 have h1:a*sz+sz≤n*sz:=by rw[←AC];exact Ai _ ha
 rw[←a9u h1,a3s hl ho]
theorem b7q{f fo:FuncId}{T U e tb:Nat}{te:Ty}(htab:a3c P C)(hT:C.ty T=some (.sl .imm e te))(hU:C.ty U=some (.sl .imm e te))(hI3:P.underlying 3=some (.int .i64))(he:e≠1){z:List Value}(hz:zeroCells te=some z)
  (hcall:∀(x y:Value) (w w':World) (b:Bool),(Ba #[U,U] #[tb] #[x,y]).run P w=.ok (.bool b) w'→(callFunc fo #[x,y]).run P w=.ok (.value (.bool b)) w')
  (hnone:∀(w:World) (a a2:Option Addr) (n cap cap2 i:Nat),i≤n→n≤cap→Calls P f #[.slice a n cap,.int .i64 i,.slice a2 0 cap2] w fun e w'=>e=.returned (.slice a n cap)∧w'=w)
  (hend:∀(w W1:World) (a a2:Option Addr) (n cap cap2 m:Nat) (v':Value),n≤cap→0<m→(A2 #[T,U] T #[.slice a n cap,.slice a2 m cap2]).run P w=.ok v' W1 →
   Calls P f #[.slice a n cap,.int .i64 n,.slice a2 m cap2] w fun e w'=>e=.returned v'∧w'=W1)
  (hgrow:∀(w W1 W2 W3:World) (b b1 n cap cap1 cap2 i m:Nat) (a2:Option Addr) (v2 v3:Value),i<n→n≤cap→0<m→cap<n+m→n+m≤140737488355328→n+m≤cap1 →
   (A2 #[T,3] T #[.slice (some ⟨b,0,none⟩) i cap,.int .i64 ((n+m - i:Nat):Int)]).run P w=.ok (.slice (some ⟨b1,0,none⟩) (n+m) cap1) W1 →
   (AP #[T,U] 3 #[.slice (some ⟨b1,i*te.size,none⟩) (n+m - i) (cap1 - i),.slice a2 m cap2]).run P W1=.ok v2 W2 →
   (AP #[T,T] 3 #[.slice (some ⟨b1,(i+m)*te.size,none⟩) (n+m - (i+m)) (cap1 - (i+m)),.slice (some ⟨b,i*te.size,none⟩) (n - i) (cap - i)]).run P W2.drew=.ok v3 W3 →
   Calls P f #[.slice (some ⟨b,0,none⟩) n cap,.int .i64 i,.slice a2 m cap2] w fun e w'=>e=.returned (.slice (some ⟨b1,0,none⟩) (n+m) cap1)∧w'=W3)
  (hroomy:∀(w W1 W2:World) (b n cap cap2 i m:Nat) (a2:Option Addr) (v2 v3:Value),i<n→0<m→n+m≤cap→n+m≤140737488355328 →
   (callFunc fo #[.slice a2 m cap2,.slice (some ⟨b,(i+m)*te.size,none⟩) (n+m - (i+m)) (cap - (i+m))]).run P w=.ok (.value (.bool false)) w →
   (AP #[T,T] 3 #[.slice (some ⟨b,(i+m)*te.size,none⟩) (n+m - (i+m)) (cap - (i+m)),.slice (some ⟨b,i*te.size,none⟩) (n+m - i) (cap - i)]).run P w.drew=.ok v2 W1 →
   (AP #[T,U] 3 #[.slice (some ⟨b,i*te.size,none⟩) (n+m - i) (cap - i),.slice a2 m cap2]).run P W1=.ok v3 W2 →
   Calls P f #[.slice (some ⟨b,0,none⟩) n cap,.int .i64 i,.slice a2 m cap2] w fun e w'=>e=.returned (.slice (some ⟨b,0,none⟩) (n+m) cap)∧w'=W2) :
  a6z A P C f ⟨[.val (.sl .own e te),.val (.int .i64),.val (.sl .imm e te)],[.val (.sl .own e te)]⟩ (insF e te):=by
 intro x y hy Z w vs fp hglob hzb hargs hnd hdis;unfold insF at hy;split at hy
 ·rename_i hcond;obtain⟨c1,c2,c3⟩:=hcond;cases hy;obtain⟨l,i,v,u⟩:=x;dsimp only at *;obtain⟨v1,vs',cs,f1,f2,hvs,hvc,hrep,⟨v2,vs2,cs2,f3,f4,hvs2,hvc2,hrep2,⟨v3,vs3,cs3,f5,f6,hvs3,hvc3,hrep3,⟨rfl,rfl⟩,rfl⟩,rfl⟩,rfl⟩:=hargs;obtain⟨rfl,rfl,_,_⟩:=hrep2;obtain⟨a2,m,cap2,rfl,rfl,hm,hmc,hmb,hmr,hv⟩:=hrep3;obtain rfl:=a0n rfl hvc2;obtain rfl:=a0n rfl hvc3;subst hvs3 hvs2;obtain rfl:=c5i hvs;obtain⟨el,ti,q1,q2,q3,q4,q5,q6,q7,q8,q9⟩:=a9v htab hT;obtain⟨elU,tiU,u1,u2,u3,u4,u5,u6,u7,u8,u9⟩:=a9v htab hU;obtain⟨ti',dd,p1,p2,p3,p4,p5⟩:=(htab _ _ q2).ex;rw[q3] at p1;obtain rfl:=Ag p1;obtain⟨zv,p6,p7⟩:=p5 z hz;have hzs:zv.cells.size=ti.size:=by
   have h1:=a6t p7;have h2:=a1j (a6f (A:=A) (P:=P) (Z:=Z) (h:=w.heap) hz);rw[←AN,h1,h2,q9]
  have hsizeU:∀w,(Go.sizeOf elU).run P w=.ok te.size w:=fun w=>(htab _ _ u2).sizeOf w
  simp only[A9] at hnd hdis ⊢;obtain⟨i',rfl⟩:∃i':Nat,i=(i':Int):=⟨i.toNat,(B4 c1).symm⟩
  replace c2:(i':Int)≤(l.length:Int):=c2;simp only[Ah];dsimp only at hrep hm hv c3;have hmul:∀a b:Nat,a≤b→a*te.size≤b*te.size:=fun a b h=>Ai _ h
  have hnmr:l.length+v.length≤room:=AM (BB _ q5) c3;have h63:l.length+v.length≤140737488355328:=hnmr;have hU1:∀k,TypeDesc.slice elU≠.int k:=by simp
  have hmono:∀{W':World} {cs:List Value} {y:te.den},(∀k,Z k→W'.heap[k]?=w.heap[k]?)→Rep A P te Z w.heap cs y []→Rep A P te Z W'.heap cs y []:=fun hh hr=>a0g hr (fun b=>id) fun k hk=>hk.elim (hh k) (by simp)
  rcases hv with rfl|⟨ad,cells,rfl,hzad,hrow,helv⟩
  ·
   simp only[List.length_nil] at hm;subst hm;have hfin:∀a n cap,cs=[.slice a n cap]→i'≤n→n≤cap→Calls P f #[v1,.int .i64 i',.slice a2 0 cap2] w fun en w'=>∃v Z' fr fi,en=.returned v∧c7r A P Z' w'.heap [.val (.sl .own e te)] v (l.take i'++([]++l.drop i'),()) fr ∧
     b0u A P Z' w'.heap [.val (.sl .own e te),.val (.int .i64),.val (.sl .imm e te)] [v1,.int .i64 i',.slice a2 0 cap2] () fi∧Step Z w f1 Z' w' (fr++fi):=by
    rintro a n cap rfl h1 h2;obtain rfl:=a0n rfl hvc;refine(hnone w a a2 n cap cap2 i' h1 h2).mono fun en w' ⟨he,hw⟩=>?_
    subst hw;rw[B5,Bw];refine⟨_,Z,f1,[],he,b4e a8i hrep,rfl,?_⟩;rw[A9];exact⟨fun b=>id,Ar _,fun _ _ _=>rfl,fun b hb=>.inl hb,fun b hb=>.inl hb,rfl,rfl,rfl,hzb,fun b hb=>b2q hrep b hb,hdis,hnd⟩
   rcases b9n q6 hrep with⟨h1,h2,h3⟩|⟨b,n,cap,c,h1,h2,h3,_⟩
   ·subst h2;exact hfin _ _ _ h1 (by simp at c2;omega) (Ar _)
   ·exact hfin _ _ _ h1 (by omega) h3
  ·have hcl:cells.length=m*te.size:=hrow.2.1;have honev:∀v,v∈cells→v.oneCell'=true:=fun v' hv'=>by
    obtain⟨q,hq,hv'⟩:=c1h hcl hv';exact a5q (helv q (by omega)) v' hv'
   have hfcv:∀W':World,W'.heap[ad.block]?=w.heap[ad.block]?→(AD te.size m (.slice (some ad) m cap2)).run P W'=.ok cells.toArray W':=fun W' hW' =>
    CH W' te.size m _ m cap2 _ hcl (Row.cell (w:=W') (hrow.mono hW'))
   have hadlt:ad.block<w.heap.size:=hzb _ hzad;rcases D9 m with hm0|hmp
   ·
    have hv0:v=[]:=Bm (by omega);subst hv0 hm0;have hfin:∀a n cap,cs=[.slice a n cap]→i'≤n→n≤cap→Calls P f #[v1,.int .i64 i',.slice (some ad) 0 cap2] w fun en w'=>∃v Z' fr fi,en=.returned v∧c7r A P Z' w'.heap [.val (.sl .own e te)] v (l.take i'++([]++l.drop i'),()) fr ∧
      b0u A P Z' w'.heap [.val (.sl .own e te),.val (.int .i64),.val (.sl .imm e te)] [v1,.int .i64 i',.slice (some ad) 0 cap2] () fi∧Step Z w f1 Z' w' (fr++fi):=by
     rintro a n cap rfl h1 h2;obtain rfl:=a0n rfl hvc;refine(hnone w a (some ad) n cap cap2 i' h1 h2).mono fun en w' ⟨he,hw⟩=>?_
     subst hw;rw[B5,Bw];refine⟨_,Z,f1,[],he,b4e a8i hrep,rfl,?_⟩;rw[A9];exact⟨fun b=>id,Ar _,fun _ _ _=>rfl,fun b hb=>.inl hb,fun b hb=>.inl hb,rfl,rfl,rfl,hzb,fun b hb=>b2q hrep b hb,hdis,hnd⟩
    rcases b9n q6 hrep with⟨h1,h2,h3⟩|⟨b,n,cap,c,h1,h2,h3,_⟩
    ·subst h2;exact hfin _ _ _ h1 (by simp at c2;omega) (Ar _)
    ·exact hfin _ _ _ h1 (by omega) h3
   ·have hoth:∀k,Z k→k∉f1:=fun k hk hf=>hdis k hf hk
    have hzv:∀w:World,(zeroValue el).run P w=.ok zv w:=fun w=>by simp[zeroValue,typeInfo,q3,p6]
    have key_end:∀(base:Option Addr) (n cap:Nat) (cs0:List Value),cs=[.slice base n cap]→n=l.length→i'=n→n≤cap→c8a w.heap te.size base n cap cs0→cs0.length=n*te.size →
      (∀q (hq:q<l.length),Rep A P te Z w.heap (seg cs0 (q*te.size) te.size) l[q] [])→((base=none∧f1=[])∨∃b,base=some ⟨b,0,none⟩∧f1=[b])→(∀b0,base=some ⟨b0,0,none⟩→NoMk w.heap b0) →
      Calls P f #[v1,.int .i64 i',.slice (some ad) m cap2] w fun en w'=>∃v' Z' fr fi,en=.returned v'∧c7r A P Z' w'.heap [.val (.sl .own e te)] v' (l.take i'++(v++l.drop i'),()) fr ∧
       b0u A P Z' w'.heap [.val (.sl .own e te),.val (.int .i64),.val (.sl .imm e te)] [v1,.int .i64 i',.slice (some ad) m cap2] () fi∧Step Z w f1 Z' w' (fr++fi):=by
     rintro base n cap cs0 rfl hn rfl hcap hab hcs0 hel hf1 hnm;obtain rfl:=a0n rfl hvc;obtain⟨v',W1,g1,g2,g3,g4,g5,g6,g7⟩:=b4w (P:=P) (w:=w) (T:=T) (T2:=U) (ty:=T) (v:=.slice (some ad) m cap2) (base:=base) (n:=i') (cap:=cap) (m:=m) (cs:=cs0) (news:=cells) q1 u1 hU1 q3 p6 hzs
      (by omega) (by rw[q9];exact hab) (by rw[q9];exact hcl) honev (fun w=>by simp[Bq]) (fun W' hW'=>by rw[q9];exact hfcv W' (by rw[hW'])) (by rw[q4,hm,hn];exact c3)
     refine(hend w W1 base (some ad) i' cap cap2 m v' hcap hmp g1).mono fun en w' ⟨hen,hw⟩=>?_
     subst hw;rcases g7 with⟨_,h0,_,_⟩|⟨b',c',cap',rfl,k1,k2,k3,k4,k5,k6⟩
     ·omega
     ·rw[q9] at k2 k5;have hb1:b'∈f1∨w.heap.size≤b':=by
       rcases k4 with h|h
       ·rcases hf1 with⟨h2,_⟩|⟨b,h2,h3⟩
        ·rw[h] at h2;cases h2
        ·rw[h] at h2;cases h2;exact .inl (by rw[h3];simp)
       ·exact .inr h
      have hkeep:∀k,k<w.heap.size→k∉f1→w'.heap[k]?=w.heap[k]?:=fun k hk hkf=>g6 k hk fun h=>by
       rcases hf1 with⟨h2,_⟩|⟨b,h2,h3⟩
       ·rw[h] at h2;cases h2
       ·rw[h] at h2;cases h2;exact hkf (by rw[h3];simp)
      have hzk:∀k,Z k→w'.heap[k]?=w.heap[k]?:=fun k hk=>hkeep k (hzb k hk) (hoth k hk)
      refine⟨_,Z,[b'],[],hen,b4e a8i (c6u (by simp only[Ac,A7,B8];omega) k3 (by rw[hn,hm];exact c3) (by omega) ⟨k1,fun _=>k6 hnm⟩ k2 (c9z hn hm (Ar _) (Q:=fun cs y=>Rep A P te Z w'.heap cs y []) (fun q hq=>?_) (fun q hq=>?_) (fun q hq=>by omega))),rfl,
       ⟨fun b=>id,g5,hkeep,fun b hb=>.inl hb,fun b hb=>by simp at hb;subst hb;exact hb1,g2,g3,g4,fun b hb=>AU (hzb b hb) g5,fun b hb=>by simp at hb;subst hb;exact k1.lt,fun b hb hz=>by
        simp at hb;subst hb;rcases hb1 with h|h
        ·exact hoth _ hz h
        ·have:=hzb _ hz;omega,by simp⟩⟩
      ·have h1:q*te.size+te.size≤(i'+m)*te.size:=by rw[←AC];exact hmul _ _ (by omega)
       have h2:q*te.size+te.size≤cs0.length:=by rw[hcs0,←AC];exact hmul _ _ (by omega)
       rw[←b0k h1,k5,a7q h2];exact hmono hzk (hel q (by omega))
      ·have h1:(i'+q)*te.size+te.size≤(i'+m)*te.size:=by rw[←AC];exact hmul _ _ (by omega)
       rw[←b0k h1,k5,AA,←hcs0,a9j];exact hmono hzk (helv q (by omega))
    rcases b9n q6 hrep with⟨h1,h2,h3⟩|⟨b,n,cap,c,rfl,hn,hcap,hb,hroom,hblkE,hc,rfl,hel⟩
    ·subst h2;exact key_end none 0 0 [] h1 rfl (by simp at c2;omega) (Ar _) (.inl ⟨rfl,rfl,rfl,rfl⟩) (by simp) (fun q hq=>by simp at hq) (.inl ⟨rfl,h3⟩) (fun b0 h=>by cases h)
    have hblk:=hblkE.blk;have hnc:=hmul n cap hcap;have hcsz:c.toList.length=cap*te.size:=by simp[hc]
    rcases BQ i' n with hin|hin
    ·obtain rfl:=a0n rfl hvc;have hbz:¬Z b:=hdis b (by simp);have hadb:ad.block≠b:=fun h=>hbz (h ▸ hzad)
     have hll:n+m=(l.take i'++(v++l.drop i')).length:=by
      simp only[Ac,A7,B8];omega
     have htl:(seg c.toList (i'*te.size) ((n - i')*te.size)).length=(n - i')*te.size:=a3w (by rw[hcsz,←AA];exact hmul _ _ (by omega));have hone:∀v,v∈seg c.toList (i'*te.size) ((n - i')*te.size)→v.oneCell'=true:=fun v' hv'=>by
      obtain⟨q,hq,hv'⟩:=c1h htl hv';have hq2:q*te.size+te.size≤(n - i')*te.size:=by rw[←AC];exact hmul _ _ hq
      rw[a9u hq2,←AA] at hv';exact a5q (hel (i'+q) (by omega)) v' hv'
     have helq:∀q (hq:q<n - i'),seg (seg c.toList (i'*te.size) ((n - i')*te.size)) (q*te.size) te.size=seg c.toList ((i'+q)*te.size) te.size:=fun q hq=>by
      have hq2:q*te.size+te.size≤(n - i')*te.size:=by rw[←AC];exact hmul _ _ hq
      rw[a9u hq2,←AA]
     have hne:∀(cc:List Value) (o k a:Nat) (ys:List Value),ys.length=k*te.size→o*te.size+k*te.size≤cc.length→(a<o∨o+k≤a)→seg (a1d cc (o*te.size) ys) (a*te.size) te.size=seg cc (a*te.size) te.size:=fun cc o k a ys h1 h2 h3=>by
      refine a1z (by rw[h1];exact h2) ?_;rcases h3 with h3|h3
      ·left;rw[←AC];exact hmul _ _ h3
      ·right;rw[h1,←AA];exact hmul _ _ h3
     have hin':∀(cc:List Value) (o k a:Nat) (ys:List Value),ys.length=k*te.size→o*te.size+k*te.size≤cc.length→a<k→seg (a1d cc (o*te.size) ys) ((o+a)*te.size) te.size=seg ys (a*te.size) te.size:=fun cc o k a ys h1 h2 h3=>by
      rw[AA];exact g0s h1 h2 h3
     rcases BQ cap (n+m) with hfull|hspace
     ·
      have hnk:i'+(n+m - i')=n+m:=by omega
      obtain⟨W1,cap1,cN,a1,a3,a4,a5,a6,a7,a8,a9,a10,a11⟩:=c8x (P:=P) (w:=w) (T:=T) (T2:=3) (ty:=T) (n:=i') (cap:=cap) (k:=n+m - i') q1 hI3 q3 p6 hzs (by omega) hblk (by rw[q9,hc];exact hmul _ _ (by omega)) (by omega) (by omega) (by rw[q4,hnk,hn,hm];exact c3);rw[hnk] at a1 a10;rw[q9] at a9 a11;have hcN:cN.toList.length=cap1*te.size:=by simp[a9]
      have hN1:=hmul (n+m) cap1 a10;obtain⟨W2,b1,b2,b3,b4,b5⟩:=b4n (P:=P) (w:=W1) (T:=T) (T2:=U) (ty:=3) (off:=i'*te.size) (dl:=n+m - i') (dc:=cap1 - i') (m:=m) (k:=m) (v:=.slice (some ad) m cap2) q1 q3 a8.blk (by simp only[El];split <;> omega)
       (by rw[q9,a9,←AA];exact hmul _ _ (by omega)) (by rw[q9];exact hcl) honev (by simp[Bq]) (by rw[q9];exact hfcv W1 (a7 _ hadlt))
      obtain⟨c2',d1,d2,d3,d4⟩:=b5.blk a8.blk;have hc2:c2'.toList.length=cap1*te.size:=by simp[d4,a9]
      have hblt:=hblk.lt;have hblk2:Blk W2.drew.heap b c:=hblk.mono (by show W2.heap[b]?=_;rw[(b5.oth2).1 b (by simp only;omega),a7 b hblt]);obtain⟨W3,e1,e2,e3,e4,e5⟩:=b4n (P:=P) (w:=W2.drew) (T:=T) (T2:=T) (ty:=3) (b:=w.heap.size) (off:=(i'+m)*te.size) (dl:=n+m - (i'+m)) (dc:=cap1 - (i'+m)) (m:=n - i') (k:=n - i') (v:=.slice (some ⟨b,i'*te.size,none⟩) (n - i') (cap - i')) q1 q3 (c:=c2') d1
       (by simp only[El];split <;> omega) (by rw[q9,d4,a9,←AA];exact hmul _ _ (by omega)) (by rw[q9];exact htl) hone (by simp[Bq])
       (by rw[q9];exact b1i hblk2 (by rw[hc,←AA];exact hmul _ _ (by omega)) fun _=>rfl)
      obtain⟨c3',m1,m2,m3,m4⟩:=e5.blk (c:=c2') d1;refine(hgrow w W1 W2 W3 b w.heap.size n cap cap1 cap2 i' m (some ad) _ _ hin hcap hmp hfull (by omega) a10 a1 b1 e1).mono fun en w' ⟨hen,hw⟩=>?_
      subst hw;have hkeep:∀k,k<w.heap.size→w'.heap[k]?=w.heap[k]?:=fun k hk=>by
       rw[(e5.oth2).1 k (by simp only;omega)];show W2.heap[k]?=_;rw[(b5.oth2).1 k (by simp only;omega),a7 k hk]
      have hszw:w'.heap.size=w.heap.size+1:=by rw[(e5.oth2).2];show W2.heap.size=_;rw[(b5.oth2).2,a6]
      have hzk:∀k,Z k→w'.heap[k]?=w.heap[k]?:=fun k hk=>hkeep k (hzb k hk)
      have hf1:i'*te.size+m*te.size≤cN.toList.length:=by rw[hcN,←AA];exact hmul _ _ (by omega)
      have hf2:(i'+m)*te.size+(n - i')*te.size≤c2'.toList.length:=by rw[hc2,←AA];exact hmul _ _ (by omega)
      refine⟨_,Z,[w.heap.size],[],hen,b4e a8i (c6u hll a10 (by rw[hn,hm];exact c3) (by omega) ⟨m1,fun _=>e5.nm (b5.nm (a8.nm (by decide)))⟩ (by rw[m4,d4,a9]) (c9z hn hm (by omega) (Q:=fun cs y=>Rep A P te Z w'.heap cs y []) (fun q hq=>?_) (fun q hq=>?_) (fun q hq=>?_))),rfl,
       ⟨fun b=>id,by omega,fun k hk _=>hkeep k hk,fun b hb=>.inl hb,fun b hb=>.inr (by simp at hb;omega),by rw[e2];show W2.os=_;rw[b2,a3],by rw[e3];show W2.output=_;rw[b3,a4],by rw[e4];show W2.tape=_;rw[b4,a5],fun b hb=>by have:=hzb b hb;omega,fun b hb=>by simp at hb;omega,
        fun b hb hz=>by simp at hb;subst hb;have:=hzb _ hz;omega,by simp⟩⟩
      ·rw[m2,hne _ _ _ _ _ htl hf2 (.inl (by omega)),d2,hne _ _ _ _ _ hcl hf1 (.inl hq)];have h1:q*te.size+te.size≤i'*te.size:=by rw[←AC];exact hmul _ _ hq
       rw[←b0k h1,a11,b0k h1];exact hmono hzk (hel q (by omega))
      ·rw[m2,hne _ _ _ _ _ htl hf2 (.inl (by omega)),d2,hin' _ _ _ _ _ hcl hf1 hq];exact hmono hzk (helv q (by omega))
      ·rw[m2,hin' _ _ _ _ _ htl hf2 hq,helq q hq];exact hmono hzk (hel (i'+q) (by omega))
     ·
      have hd:Blk w.drew.heap b c:=hblk;obtain⟨W1,a1,a3,a4,a5,a6⟩:=b4n (P:=P) (w:=w.drew) (T:=T) (T2:=T) (ty:=3) (off:=(i'+m)*te.size) (dl:=n+m - (i'+m)) (dc:=cap - (i'+m)) (m:=n+m - i') (k:=n - i') (v:=.slice (some ⟨b,i'*te.size,none⟩) (n+m - i') (cap - i')) q1 q3 hd (by simp only[El];split <;> omega)
       (by rw[q9,hc,←AA];exact hmul _ _ (by omega)) (by rw[q9];exact htl) hone (by simp[Bq])
       (by
        rw[q9];have:=b1i (P:=P) (w:=w.drew) (n:=n - i') (cap:=cap - i') (ad:=⟨b,i'*te.size,none⟩) hd (o:=i'*te.size) (sz:=te.size) (by rw[hc,←AA];exact hmul _ _ (by omega)) fun _=>rfl
        exact this)
      obtain⟨cA,d1,d2,d3,d4⟩:=a6.blk hd;have hcA:cA.toList.length=cap*te.size:=by simp[d4,hc]
      obtain⟨W2,b1,b2,b3,b4,b5⟩:=b4n (P:=P) (w:=W1) (T:=T) (T2:=U) (ty:=3) (off:=i'*te.size) (dl:=n+m - i') (dc:=cap - i') (m:=m) (k:=m) (v:=.slice (some ad) m cap2) q1 q3 d1 (by simp only[El];split <;> omega)
       (by rw[q9,d4,hc,←AA];exact hmul _ _ (by omega)) (by rw[q9];exact hcl) honev (by simp[Bq]) (by rw[q9];exact hfcv W1 (by rw[(a6.oth2).1 _ hadb];rfl))
      obtain⟨cB,m1,m2,m3,m4⟩:=b5.blk d1;obtain⟨cad,elad,frad,hadh,hadc⟩:=hrow.2.2;have hov:=hcall (.slice (some ad) m cap2) (.slice (some ⟨b,(i'+m)*te.size,none⟩) (n+m - (i'+m)) (cap - (i'+m))) w w false (c5s (tR:=tb) u1 hsizeU hadb hblk (hblkE.nm he) (by rw[hc];have:=hmul (i'+m+1) cap (by omega);rw[AC] at this;omega) (tA:=elad) (kA:=cad.size) (by simp[FU,hadh]) (by
       have h0:=hadc 0 (Ii hmp (by omega));rw[Bb (by rw[hcl];exact Ii hmp (by omega))] at h0;obtain⟨hlt,_⟩:=Array.getElem?_eq_some_iff.1 h0;omega))
      refine(hroomy w W1 W2 b n cap cap2 i' m (some ad) _ _ hin hmp hspace (by omega) hov a1 b1).mono fun en w' ⟨hen,hw⟩=>?_
      subst hw;have hkeep:∀k,k≠b→w'.heap[k]?=w.heap[k]?:=fun k hk=>by
       rw[(b5.oth2).1 k hk,(a6.oth2).1 k hk];rfl
      have hszw:w'.heap.size=w.heap.size:=by rw[(b5.oth2).2,(a6.oth2).2];rfl
      have hzk:∀k,Z k→w'.heap[k]?=w.heap[k]?:=fun k hk=>hkeep k fun h=>hbz (h ▸ hk)
      have hf1:i'*te.size+m*te.size≤cA.toList.length:=by rw[hcA,←AA];exact hmul _ _ (by omega)
      have hf2:(i'+m)*te.size+(n - i')*te.size≤c.toList.length:=by rw[hcsz,←AA];exact hmul _ _ (by omega)
      refine⟨_,Z,[b],[],hen,b4e a8i (c6u hll hspace (by rw[hn,hm];exact c3) (by omega) ⟨m1,fun he=>b5.nm (a6.nm (hblkE.nm he))⟩ (by rw[m4,d4,hc]) (c9z hn hm (by omega) (Q:=fun cs y=>Rep A P te Z w'.heap cs y []) (fun q hq=>?_) (fun q hq=>?_) (fun q hq=>?_))),rfl,
       ⟨fun b=>id,by omega,fun k hk hkb=>hkeep k (by simpa using hkb),fun b hb=>.inl hb,fun b hb=>.inl hb,by rw[b2,a3];rfl,by rw[b3,a4];rfl,by rw[b4,a5];rfl,fun b hb=>by have:=hzb b hb;omega,fun k hk=>by rw[hszw];exact b2q hrep k hk,hdis,by simp⟩⟩
      ·rw[m2,hne _ _ _ _ _ hcl hf1 (.inl hq),d2,hne _ _ _ _ _ htl hf2 (.inl (by omega))];exact hmono hzk (hel q (by omega))
      ·rw[m2,hin' _ _ _ _ _ hcl hf1 hq];exact hmono hzk (helv q (by omega))
      ·rw[m2,hne _ _ _ _ _ hcl hf1 (.inr (by omega)),d2,hin' _ _ _ _ _ htl hf2 hq,helq q hq];exact hmono hzk (hel (i'+q) (by omega))
    ·have hinE:i'=n:=by omega
     exact key_end (some ⟨b,0,none⟩) n cap (c.toList.take (n*te.size)) rfl hn hinE hcap (.inr ⟨b,c,rfl,hblk,hc,hcap,rfl⟩) (by simp;omega) (fun q hq=>by
      have h1:q*te.size+te.size≤n*te.size:=by rw[←AC];exact hmul _ _ (by omega)
      rw[b0k h1];exact hel q hq) (.inr ⟨b,rfl,rfl⟩) (fun b0 h=>by cases h;exact hblkE.nm he)
 ·simp at hy
end Go.Rb

namespace Go.Rb
variable {A:Amb} {P:Program} {C:Ctx} {w w':World} {Z Z':Nat→Prop} {h h':Array Obj}
def idxI:List Int→Int→Int
 |[],_=>-1
 |b::l,c=>if b=c then 0 else if idxI l c=-1 then -1 else idxI l c+1
theorem e9y(c:Int)(h0:0≤c)(h1:c≤255):∀l:List UInt8,D6 l c.toNat.toUInt8=idxI (l.map fun b=>(b.toNat:Int)) c
 |[]=>rfl
 |b::l=>by
  have hb:(b==c.toNat.toUInt8)=decide ((b.toNat:Int)=c):=by
   rw[Bool.eq_iff_iff];simp only[beq_iff_eq,decide_eq_true_eq];have hc:(c.toNat.toUInt8).toNat=c.toNat:=by
    simp only[Ij,UInt8.toNat_ofNat'];omega
   constructor
   ·rintro rfl;rw[hc];omega
   ·intro h;apply Fu.1;rw[hc];omega
  simp only[D6,idxI,Bc,hb,e9y c h0 h1 l,decide_eq_true_eq,beq_iff_eq]
theorem e1c(c:Int):∀l:List Int,-1≤idxI l c∧idxI l c<l.length
 |[]=>by simp[idxI]
 |b::l=>by
  have:=e1c c l;simp only[idxI,List.length_cons];split
  ·omega
  ·split <;> omega
def ixF(x:List Int×Int×Unit):Option ((Int×Unit)×Unit):=some ((idxI x.1 x.2.1,()),())
theorem f0c(hzb:∀b,Z b→b<w.heap.size):Step Z w [] Z w ([]++[]) :=
 ⟨fun b=>id,Ar _,fun _ _ _=>rfl,fun b hb=>.inl hb,by simp,rfl,rfl,rfl,hzb,by simp,by simp,by simp⟩
theorem e8v{t:Ty}{v:Value}(h1:t.agg=false)(h2:∀a,v≠.agg a):VC t v [v]:=by
 unfold VC;rw[if_neg (by simp[h1])];exact⟨rfl,h2⟩
theorem c7m{f:FuncId}(hc:∀(s:ByteArray) (c:Int) (w:World),Calls P f #[.string s,.int .u8 c] w fun e w'=>e=.returned (.int .i64 (D6 s.data.toList c.toNat.toUInt8))∧w'=w) :
  a6z A P C f ⟨[.val .str,.val (.int .u8)],[.val (.int .i64)]⟩ ixF:=by
 intro x y hy Z w vs fp hglob hzb hargs hnd hdis;cases hy;obtain⟨l,c,u⟩:=x;obtain⟨v1,vs',cs,f1,f2,hvs,hvc,hrep,⟨v2,vs2,cs2,f3,f4,hvs2,hvc2,hrep2,⟨rfl,rfl⟩,rfl⟩,rfl⟩:=hargs;obtain⟨rfl,s,rfl,hl,hsz⟩:=hrep;obtain⟨rfl,rfl,hc0,hc1⟩:=hrep2;obtain rfl:=a0n rfl hvc;obtain rfl:=a0n rfl hvc2;subst hvs2;obtain rfl:=c4b hvs;dsimp only at hl hc0 hc1 ⊢;subst hl;refine(hc s c w).mono fun en w' ⟨he,hw⟩=>?_
 subst hw;have h255:(A6).max=255:=rfl;have h0:(A6).min=0:=rfl;rw[e9y c (by rw[←h0];exact hc0) (by rw[←h255];exact hc1)] at he;refine⟨_,Z,[],[],he,b4e (e8v rfl (by simp)) ⟨rfl,rfl,?_⟩,rfl,f0c hzb⟩;have hb:=e1c c (a2c s);have hlen:=a4h s;have hm:(Aa).max=9223372036854775807:=rfl;have hn:(Aa).min=-9223372036854775808:=rfl;unfold room at hsz;rw[hlen] at hb;show(Aa).min≤idxI (a2c s) c∧idxI (a2c s) c≤(Aa).max;rw[hm,hn];omega
end Go.Rb

namespace Go.Rb
variable {A:Amb} {P:Program} {C:Ctx} {w w':World} {Z Z':Nat→Prop} {h h':Array Obj}
def e8p(P:Program)(t:TypeId):Bool:=match P.underlying t with
 |some (.interface _)=>true
 |_=>false
theorem a9d{t:TypeId}(h:e8p P t=true):∃ms,P.underlying t=some (.interface ms):=by
 unfold e8p at h;split at h
 ·exact⟨_,by assumption⟩
 ·simp at h
def d0w(P:Program)(t asserted:TypeId):Bool:=match P.underlying asserted,P.info? t,P.info? asserted with
 |some (.interface want),some i,some j=>(match lacking want i.methods with|[]=>false|_=>true)&&(match j.zero with|some .nilIface=>true|_=>false)
 |_,_,_=>false
theorem a3q{t asserted:TypeId}(h:d0w P t asserted=true)(v:Value)(xT:TypeId)(w:World):(Fi (.iface t v) xT asserted true).run P w=.ok (.tuple #[.nilIface,.bool false]) w:=by
 unfold d0w at h;split at h
 ·rename_i want i j h1 h2 h3;simp only[Bool.and_eq_true] at h;obtain⟨h4,h5⟩:=h;split at h4
  ·simp at h4
  ·rename_i hl;split at h5
   ·rename_i hz;exact run_typeAssert_lacks h1 h2 h3 hz hl
   ·simp at h5
 ·simp at h
def hasB(P:Program)(t asserted:TypeId):Bool:=match P.underlying asserted,P.info? t with
 |some (.interface want),some i=>(match lacking want i.methods with|[]=>true|_=>false)
 |_,_=>false
theorem d2f{t asserted:TypeId}(h:hasB P t asserted=true)(v:Value)(xT:TypeId)(w:World):(Fi (.iface t v) xT asserted true).run P w=.ok (.tuple #[.iface t v,.bool true]) w:=by
 unfold hasB at h;split at h
 ·rename_i want i h1 h2;split at h
  ·rename_i hl;exact run_typeAssert_has h1 h2 hl
  ·simp at h
 ·simp at h
end Go.Rb

namespace Go.Rb
variable {A:Amb} {P:Program} {C:Ctx} {w w':World} {Z Z':Nat→Prop} {h h':Array Obj}
def toBA(l:List Int):ByteArray:=⟨(l.map fun c=>c.toNat.toUInt8).toArray⟩
theorem d2e(s:ByteArray):toBA (a2c s)=s:=by
 cases s with|mk a =>
 unfold toBA a2c;congr 1;cases a with|mk l =>
 simp only[List.map_map];congr 1
 induction l with
 |nil=>rfl
 |cons b l ih =>
  simp only[Bc,ih,Function.comp_apply];congr 1;apply Fu.1;simp[Ij]
def c3m(G:Int→Option Bool)(truth:Bool)(s:ByteArray):Nat→Nat→Option Int
 |0,_=>some (-1)
 |f+1,pos=>if pos<s.size then
   match G (Ex s pos).1 with
   |none=>none
   |some b=>if b=truth then some (pos:Int) else c3m G truth s f (pos+(Ex s pos).2)
  else some (-1)
theorem c7k{G:Int→Option Bool}{truth:Bool}{s:ByteArray}:∀(f pos:Nat) {r:Int},c3m G truth s f pos=some r→-1≤r∧r<s.size∨r=-1
 |0,_,r,h=>by simp[c3m] at h;exact .inr h.symm
 |f+1,pos,r,h=>by
  unfold c3m at h;split at h
  ·rename_i hp;split at h
   ·cases h
   ·split at h
    ·cases h;exact .inl ⟨by omega,by omega⟩
    ·exact c7k f _ h
  ·cases h;exact .inr rfl
theorem a5m{f:FuncId}(h:a2o P f)(args:Array Value)(w:World):(callFunc f args).run P w=.ok (.enter f args) w:=by
 obtain⟨fn,hf,hname,hb⟩:=h;have h1 : fn.name ≠ "runtime.NumGoroutine" := by simpa using hname
 obtain⟨c,hc⟩:∃c,fn.body=some c:=by
  cases hx:fn.body with
  |none=>simp[hx] at hb
  |some c=>exact⟨c,rfl⟩
 simp[callFunc,hf,h1,hc,mark]
theorem e6w{Z:Nat→Prop}{w w':World}(h:Step Z w [] Z' w' []):Cg w.heap.size w w':=⟨h.os,h.tape,h.out,h.size,fun k hk=>h.keep k hk (by simp)⟩
theorem e6j{Z:Nat→Prop}{w w':World}{l:List Nat}(hzb:∀b,Z b→b<w.heap.size)(hb:Cg w.heap.size w w'):Step Z w l Z w' ([]++[]) :=
 ⟨fun b=>id,hb.size,fun k hk _=>hb.block k hk,fun b hb=>.inl hb,by simp,hb.os,hb.output,hb.tape,fun b hz=>AU (hzb b hz) hb.size,by simp,by simp,by simp⟩
def ifF(x:List Int×(Int→Option Bool)×Bool×Unit):Option ((Int×Unit)×Unit):=(c3m x.2.1 x.2.2.1 (toBA x.1) x.1.length 0).bind fun r=>some ((r,()),())
theorem c9o{f:FuncId}
  (hc:∀(s:ByteArray) (g:FuncId) (first capt:Array Value) (G:Int→Option Bool) (truth:Bool) (w:World) (r:Int),(∀args w,(callFunc g args).run P w=.ok (.enter g args) w) →
   (∀W R b,Cg w.heap.size w W→0≤R→R≤1114111→G R=some b→Calls P g (first++#[.int .i32 R]++capt) W fun e w'=>e=.returned (.bool b)∧Cg W.heap.size W w') →
   c3m G truth s s.size 0=some r→Calls P f #[.string s,.func (.func g) first capt,.bool truth] w fun e w'=>e=.returned (.int .i64 r)∧Cg w.heap.size w w') :
  a6z A P C f ⟨[.val .str,.val (.fn (.int .i32) .bool),.val .bool],[.val (.int .i64)]⟩ ifF:=by
 intro x y hy Z w vs fp hglob hzb hargs hnd hdis;obtain⟨l,G,truth,u⟩:=x;obtain⟨v1,vs',cs,f1,f2,hvs,hvc,hrep,⟨v2,vs2,cs2,f3,f4,hvs2,hvc2,hrep2,⟨v3,vs3,cs3,f5,f6,hvs3,hvc3,hrep3,⟨rfl,rfl⟩,rfl⟩,rfl⟩,rfl⟩:=hargs;obtain⟨rfl,s,rfl,hl,hsz⟩:=hrep;obtain⟨rfl,g,first,capt,rfl,hcl,hfn⟩:=hrep2;obtain⟨rfl,rfl⟩:=hrep3;obtain rfl:=a0n rfl hvc;obtain rfl:=a0n rfl hvc2;obtain rfl:=a0n rfl hvc3;subst hvs3;subst hvs2;have hvs:vs=#[.string s,.func (.func g) first capt,.bool truth]:=by
  cases vs;simpa using hvs
 subst hvs;dsimp only at hl hfn hy ⊢;subst hl;unfold ifF at hy;dsimp only at hy;rw[d2e,a4h] at hy;simp only[Option.bind_eq_some_iff,Ad] at hy;obtain⟨r,hr,rfl⟩:=hy;refine(hc s g first capt G truth w r (a5m hcl) (fun W R b hB h0 h1 hG=>?_) hr).mono fun en w' ⟨he,hw⟩=>?_
 ·refine(hfn Z W (.int .i32 R) [.int .i32 R] R b ⟨fun b=>id,fun b hb=>hB.block b (hzb b hb)⟩ (fun b hb=>AU (hzb b hb) hB.size) (e8v rfl (by simp)) ⟨rfl,rfl,?_,?_⟩ hG).mono ?_
  ·show(Dz).min≤R;have:(Dz).min=-2147483648:=rfl;rw[this];omega
  ·show R≤(Dz).max;have:(Dz).max=2147483647:=rfl;rw[this];omega
  ·rintro e w'' ⟨v',cv',Z'',rfl,hv,hst,hrb⟩;obtain⟨-,rfl⟩:=hrb;obtain rfl:=a0n rfl hv;exact⟨rfl,e6w hst⟩
 ·refine⟨_,Z,[],[],he,b4e (e8v rfl (by simp)) ⟨rfl,rfl,?_⟩,rfl,e6j hzb hw⟩;have hlen:=a4h s;have hm:(Aa).max=9223372036854775807:=rfl;have hn:(Aa).min=-9223372036854775808:=rfl;have hb:=c7k _ _ hr;unfold room at hsz;show(Aa).min≤r∧r≤(Aa).max;rw[hm,hn];omega
end Go.Rb
