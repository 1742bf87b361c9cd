/- Rb: contracts by hand: rows of cells that a walk turns; slices.Compact. Own work. -/
import Derived.Test.YthkgkalebkbndaaGreatDoorRbG
import Derived.Laws.Cells
import Derived.Laws.Append
import Derived.Shelf.SlSortCmp.WholeK
set_option autoImplicit false
set_option linter.unusedVariables false
set_option linter.unusedSimpArgs false
open Array renaming append_assoc->BD,getElem?_modify->BT,length_toList->AN
open Bool renaming and_eq_true->Af,eq_false_iff->BA
open Go renaming run_underlying->An,size_zeroCells->Et
open Go.Builtin renaming append_->A2,firstCells->AD,zeroCells->B1
open Go.Lib renaming bitLen->BI
open Go.Question renaming forced->Ds
open Go.RowKit renaming Below->Cg
open Go.RowKit.Below renaming refl->BN
open Go.Value renaming cells->Cz
open Go.World renaming cell?->C5
open List renaming getElem!_eq_getElem?_getD->DA,getElem?_drop->Bg,getElem?_eq_getElem->Bb,getElem?_eq_none->BW,getElem?_take->AV,getElem_map->Eh
open List.cons renaming injEq->AG
open Nat renaming add_mul->AA,beq->AB,eq_of_beq_eq_true->AF,eq_zero_or_pos->D9,le_mul_of_pos_right->BB,le_refl->Ar,le_trans->AM,lt_of_lt_of_le->AU,lt_or_ge->BQ,mul_le_mul_right->Ai,zero_add->EW,zero_le->A8
open Option renaming bind_eq_some_iff->Bv
open Option.some renaming inj->Ag,injEq->Ad
open Prod.mk renaming injEq->Aj
namespace Go.Rb
variable {A:Amb} {P:Program} {C:Ctx} {w w' W:World} {Z Z':Nat→Prop} {h h':Array Obj}
structure Away (p:Prop):Prop where
 out:p
structure CW (w:World) (b S sz n:Nat) (X:Nat→List Value) (W:World):Prop where
 os:W.os=w.os
 out:W.output=w.output
 tape:W.tape=w.tape
 size:W.heap.size=w.heap.size
 oth:∀k,k≠b→W.heap[k]?=w.heap[k]?
 blk:∃c,Blk W.heap b c∧c.size=S∧∀i,i<n→seg c.toList (i*sz) sz=X i
 nm:NoMk w.heap b→NoMk W.heap b
variable {b S sz n:Nat} {X Y:Nat→List Value}
theorem CW.congr(hc:CW w b S sz n X W)(h:∀i,i<n→X i=Y i):CW w b S sz n Y W:=by
 obtain⟨c,h1,h2,h3⟩:=hc.blk;exact { hc with blk:=⟨c,h1,h2,fun i hi=>(h3 i hi).trans (h i hi)⟩ }
theorem CW.drew(hc:CW w b S sz n X W):CW w b S sz n X W.drew:={ hc with }
theorem b2f{i n sz:Nat}(h:i<n):i*sz+sz≤n*sz:=by
 have:=Ai sz (show i+1≤n from h);rwa [AA,Nat.one_mul] at this
theorem CW.load(hc:CW w b S sz n X W)(hS:n*sz≤S){i:Nat}(hi:i<n):Sem.run P (loadCellsFrom ⟨b,i*sz,none⟩ 0 sz #[]) W=.ok (X i).toArray W:=by
 obtain⟨c,⟨el,fr,h1,_⟩,h2,h3⟩:=hc.blk;have hm:=b2f (sz:=sz) hi;have hl:(X i).length=sz:=by rw[←h3 i hi];exact a3w (by simp;omega)
 have:=run_loadCells_list (P:=P) (w:=W) ⟨b,i*sz,none⟩ (X i) fun j v hj=>by
  have hjl:j<sz:=by
   rcases BQ j (X i).length with h|h
   ·omega
   ·rw[BW h] at hj;cases hj
  rw[a8j rfl];rw[←h3 i hi] at hj;unfold seg at hj;rw[AV,if_pos hjl,Bg] at hj;simp only[C5,h1];simpa using hj
 rw[hl] at this;simpa[loadCells] using this
theorem CW.store(hc:CW w b S sz n X W)(hS:n*sz≤S){i:Nat}(hi:i<n){ys:List Value}(hl:ys.length=sz)(h1:∀v,v∈ys→v.oneCell'=true) :
  ∃W',Sem.run P (storeCells ⟨b,i*sz,none⟩ ys 0) W=.ok () W'∧CW w b S sz n (fun j=>if j=i then ys else X j) W':=by
 obtain⟨c,hb,h2,h3⟩:=hc.blk;have hm:=b2f (sz:=sz) hi;obtain⟨W',r1,r2,r3,r4,r5,r6⟩:=a2h (P:=P) ys 0 W ⟨b,i*sz,none⟩ c rfl hb (by simp only;omega) h1;obtain⟨c',k1,k2,k3,k4⟩:=r6.blk hb;refine⟨W',r1,r2.trans hc.os,r3.trans hc.out,r4.trans hc.tape,(r6.oth2).2.trans hc.size,fun k hk=>((r6.oth2).1 k hk).trans (hc.oth k hk),⟨c',k1,by omega,fun j hj=>?_⟩,fun hm=>r6.nm (hc.nm hm)⟩;have hmj:=b2f (sz:=sz) hj;rw[k2];by_cases hji:j=i
 ·subst hji;rw[if_pos rfl];exact a3s hl (by simp;omega)
 ·rw[if_neg hji,←h3 j hj];refine a1z (by simp only[AN];omega) ?_;rcases BQ j i with h|h
  ·exact .inl (by have:=b2f (sz:=sz) h;simpa using this)
  ·have:=b2f (sz:=sz) (show i<j by omega);exact .inr (by simp only;omega)
theorem CW.cell(hc:CW w b S sz n X W)(hS:n*sz≤S){i j:Nat}(hi:i<n){v:Value}(hj:(X i)[j]?=some v):W.cell? ⟨b,i*sz+j,none⟩=some v:=by
 obtain⟨c,⟨el,fr,h1,_⟩,h2,h3⟩:=hc.blk;have hm:=b2f (sz:=sz) hi;have hl:(X i).length=sz:=by rw[←h3 i hi];exact a3w (by simp;omega)
 have hjl:j<sz:=by
  rcases BQ j (X i).length with h|h
  ·omega
  ·rw[BW h] at hj;cases hj
 rw[←h3 i hi] at hj;unfold seg at hj;rw[AV,if_pos hjl,Bg] at hj;simp only[C5,h1];simpa using hj
theorem CW.clear(hc:CW w b S sz n X W){T ty el:TypeId}{z:Value}(ht:P.underlying T=some (.slice el))(hz:∀w,(zeroValue el).run P w=.ok z w)(hzs:z.cells.size=sz)(hz1:∀v,v∈z.cells.toList→v.oneCell'=true){k cap:Nat}(hk:k<n)(hS:n*sz≤S) :
  ∃W',(Builtin.clear_ #[T] ty #[.slice (some ⟨b,k*sz,none⟩) (n - k) cap]).run P W=.ok (.tuple #[]) W'∧CW w b S sz k X W':=by
 obtain⟨c,hb,h2,h3⟩:=hc.blk;have e:k*sz+(n - k)*sz=n*sz:=by rw[←AA];congr 1;omega
 obtain⟨W',news,r1,r2,r3,r4,r5,r6⟩:=c1r (P:=P) (w:=W) (T:=T) (ty:=ty) (cap:=cap) (n:=n - k) (off:=k*sz) ht hz hzs hz1 hb (by omega) (by omega);obtain⟨c',k1,k2,k3,k4⟩:=r6.blk hb;refine⟨W',r1,r2.trans hc.os,r3.trans hc.out,r4.trans hc.tape,(r6.oth2).2.trans hc.size,fun k hk=>((r6.oth2).1 k hk).trans (hc.oth k hk),⟨c',k1,by omega,fun j hj=>?_⟩,fun hm=>r6.nm (hc.nm hm)⟩;have hmj:=b2f (sz:=sz) hj;rw[k2,←h3 j (by omega)];exact a1z (by simp only[AN];omega) (.inl (by simpa using hmj))
variable {eqB:Nat→Nat→Bool} {E:Nat→List Value}
end Go.Rb

namespace Go.Rb
variable {A:Amb} {P:Program} {C:Ctx} {w w':World} {Z Z':Nat→Prop} {h h':Array Obj}
def memW(t:Nat):List Nat→Bool
 |[]=>false
 |a::l=>match AB t a with
  |true=>true
  |false=>memW t l
theorem e2i{t:Nat}:∀{l:List Nat},memW t l=true→t∈l
 |[],h=>by simp[memW] at h
 |a::l,h=>by
  unfold memW at h;split at h
  ·rename_i hb;rw[AF hb];exact List.mem_cons_self ..
  ·exact List.mem_cons_of_mem _ (e2i h)
def isUs(ws:List Nat)(e:UV)(g:Nat):Option Bool:=match e with
 |.nil=>some false
 |.sent g'=>some (AB g' g)
 |.node t (.pair (.str _) (.pair (.sent g') .unit))=>match memW t ws with
  |true=>some (AB g' g)
  |false=>none
 |_=>none
def isFs(ws:List Nat)(x:UV×UV×Unit):Option ((Bool×Unit)×Unit):=match x.2.1 with
 |.sent g=>(isUs ws x.1 g).bind fun b=>some ((b,()),())
 |_=>none
theorem e9r{f:FuncId}{ws:List Nat}{et:Nat}(hA:∀g T a,A.sent g=some (T,a)→T=et)
  (hnil:∀(b:Addr) (w:World),Calls P f #[.nilIface,.iface et (.pointer (some b))] w fun e w'=>e=.returned (.bool false)∧w'=w)
  (hsame:∀(a:Addr) (w:World),Calls P f #[.iface et (.pointer (some a)),.iface et (.pointer (some a))] w fun e w'=>e=.returned (.bool true)∧w'=w)
  (hother:∀(a b:Addr) (ca cb:Array Value) (ta tb:TypeId) (w:World),a≠b→w.heap[a.block]?=some (.cells ca ta (0,0))→w.heap[b.block]?=some (.cells cb tb (0,0)) →
   Calls P f #[.iface et (.pointer (some a)),.iface et (.pointer (some b))] w fun e w'=>e=.returned (.bool false)∧w'=w)
  (hwsame:∀wt,wt∈ws→∀(s:ByteArray) (a:Addr) (w:World),(∃ca ta,w.heap[a.block]?=some (.cells ca ta (0,0)))→Calls P f #[.iface wt (.agg #[.string s,.iface et (.pointer (some a))]),.iface et (.pointer (some a))] w fun e w'=>e=.returned (.bool true)∧Cg w.heap.size w w')
  (hwother:∀wt,wt∈ws→∀(s:ByteArray) (a b:Addr) (ca cb:Array Value) (ta tb:TypeId) (w:World),a≠b→w.heap[a.block]?=some (.cells ca ta (0,0))→w.heap[b.block]?=some (.cells cb tb (0,0)) →
   Calls P f #[.iface wt (.agg #[.string s,.iface et (.pointer (some a))]),.iface et (.pointer (some b))] w fun e w'=>e=.returned (.bool false)∧Cg w.heap.size w w') :
  a6z A P C f ⟨[.val .err,.val .err],[.val .bool]⟩ (isFs ws):=by
 intro x y hy Z w vs fp hglob hzb hargs hnd hdis;obtain⟨e,t,u⟩:=x;obtain⟨v1,vs',cs,f1,f2,hvs,hvc,hrep,⟨v2,vs2,cs2,f3,f4,hvs2,hvc2,hrep2,⟨rfl,rfl⟩,rfl⟩,rfl⟩:=hargs;obtain⟨rfl,hc1,v1',rfl,hna,htop⟩:=hrep;obtain⟨rfl,hc2,v2',rfl,hna2,htop2⟩:=hrep2;obtain rfl:=a0n rfl hvc;obtain rfl:=a0n rfl hvc2;subst hvs2;obtain rfl:=c4b hvs;dsimp only at hc1 hc2;have hfin:∀(b:Bool) {w':World} {en:Ending},en=.returned (.bool b)→Cg w.heap.size w w'→∃v Z' fr fi,en=.returned v∧c7r A P Z' w'.heap [.val .bool] v (b,()) fr∧b0u A P Z' w'.heap [.val .err,.val .err] [v1,v2] () fi∧Step Z w ([]++([]++[])) Z' w' (fr++fi) :=
  fun b w' en he hb=>⟨_,Z,[],[],he,b4e (by unfold VC;simp[Ty.agg]) ⟨rfl,rfl⟩,rfl,⟨fun b=>id,hb.size,fun k hk _=>hb.block k hk,fun b hb=>.inl hb,by simp,hb.os,hb.output,hb.tape,fun b hz=>AU (hzb b hz) hb.size,by simp,by simp,by simp⟩⟩
 unfold isFs at hy;dsimp only at hy;split at hy
 ·rename_i g;obtain⟨T,b,hb1,hb2⟩:=hc2;have hT:=hA g T b hb2;subst hT;simp only[AG,and_true] at hb1;subst hb1;obtain⟨_,_,cb,tb,hbb⟩:=hglob.amb.at_ g T b hb2;simp only[Bv,Ad] at hy;obtain⟨r,hr,rfl⟩:=hy;unfold isUs at hr;split at hr
  ·cases hr;simp only[RepC,AG,and_true] at hc1;subst hc1;exact(hnil b w).mono fun en w' ⟨he,hw⟩=>hfin false he (hw ▸ BN _ _)
  ·rename_i g';cases hr;obtain⟨T',a,ha1,ha2⟩:=hc1;have hT':=hA g' T' a ha2;subst hT';simp only[AG,and_true] at ha1;subst ha1;obtain⟨_,_,ca,ta,haa⟩:=hglob.amb.at_ g' T' a ha2;by_cases hgg:g'=g
   ·subst hgg;rw[ha2] at hb2;simp only[Ad,Aj,true_and] at hb2;subst hb2;rw[show AB g' g'=true by simp];exact(hsame a w).mono fun en w' ⟨he,hw⟩=>hfin true he (hw ▸ BN _ _)
   ·have hne:a≠b:=fun h=>hgg (hglob.amb.inj g' g _ _ a ha2 (h ▸ hb2))
    rw[show AB g' g=false by rw[BA];intro h;exact hgg (AF h)];exact(hother a b ca cb ta tb w hne haa hbb).mono fun en w' ⟨he,hw⟩=>hfin false he (hw ▸ BN _ _)
  ·rename_i t' l g';split at hr
   ·rename_i hwt;have hmem:=e2i hwt;cases hr;obtain⟨x,hx1,c1,c2,hx2,⟨s,rfl,_⟩,c3,c4,rfl,⟨T',a,rfl,ha2⟩,hx3⟩:=hc1;simp only[RepC] at hx3;subst hx3;have hT':=hA g' T' a ha2;subst hT';simp only[AG,and_true] at hx1;subst hx1;have hxa:x=.agg #[.string s,.iface T' (.pointer (some a))]:=by
     cases x with
     |agg ar =>
      simp only[Cz] at hx2;cases ar;simp at hx2;rw[hx2]
     |_=>simp[Cz] at hx2
    subst hxa;obtain⟨_,_,ca,ta,haa⟩:=hglob.amb.at_ g' T' a ha2;by_cases hgg:g'=g
    ·subst hgg;rw[ha2] at hb2;simp only[Ad,Aj,true_and] at hb2;subst hb2;rw[show AB g' g'=true by simp];exact(hwsame _ hmem s a w ⟨ca,ta,haa⟩).mono fun en w' ⟨he,hw⟩=>hfin true he hw
    ·have hne:a≠b:=fun h=>hgg (hglob.amb.inj g' g _ _ a ha2 (h ▸ hb2))
     rw[show AB g' g=false by rw[BA];intro h;exact hgg (AF h)];exact(hwother _ hmem s a b ca cb ta tb w hne haa hbb).mono fun en w' ⟨he,hw⟩=>hfin false he hw
   ·cases hr
  ·cases hr
 ·cases hy
end Go.Rb

namespace Go.Rb
open Go.Sort Go.Proofs
variable {A:Amb} {P:Program} {C:Ctx} {w w' W:World} {Z Z':Nat→Prop} {h h':Array Obj}
def Ty.cells:Ty→Bool
 |.int _|.bool|.str|.unit=>true
 |.st t=>t.cells
 |.pair a b=>a.cells&&b.cells
 |_=>false
def Ty.enc:(t:Ty)→t.den→List Value
 |.int k,x=>[.int k x]
 |.bool,x=>[.bool x]
 |.str,x=>[.string (toBA x)]
 |.st t,x=>t.enc x
 |.pair a b,x=>a.enc x.1++b.enc x.2
 |_,_=>[]
theorem Ty.enc_length:∀{t:Ty} (x:t.den),t.cells=true→(t.enc x).length=t.size
 |.int _,_,_=>rfl
 |.bool,_,_=>rfl
 |.str,_,_=>rfl
 |.unit,_,_=>rfl
 |.st t,x,h=>Ty.enc_length (t:=t) x h
 |.pair a b,x,h=>by
  simp only[Ty.cells,Af] at h;simp[Ty.enc,Ty.size,Ty.enc_length x.1 h.1,Ty.enc_length x.2 h.2]
theorem Ty.enc_one:∀{t:Ty} (x:t.den) (v:Value),v∈t.enc x→v.oneCell'=true
 |.int _,_,v,h=>by simp[Ty.enc] at h;subst h;rfl
 |.bool,_,v,h=>by simp[Ty.enc] at h;subst h;rfl
 |.str,_,v,h=>by simp[Ty.enc] at h;subst h;rfl
 |.st t,x,v,h=>Ty.enc_one (t:=t) x v h
 |.pair a b,x,v,h=>by
  simp only[Ty.enc,List.mem_append] at h;exact h.elim (Ty.enc_one x.1 v) (Ty.enc_one x.2 v)
theorem c8y:∀{t:Ty} {cs:List Value} {x:t.den} {fp:List Nat},t.cells=true→Rep A P t Z h cs x fp→cs=t.enc x
 |.int _,_,_,_,_,hr=>hr.2.1
 |.bool,_,_,_,_,hr=>hr.2
 |.str,_,_,_,_,hr=>by
  obtain⟨_,s,rfl,rfl,_⟩:=hr;simp[Ty.enc,d2e]
 |.unit,_,_,_,_,hr=>hr.1
 |.st t,_,_,_,hc,hr=>c8y (t:=t) hc hr
 |.pair a b,_,_,_,hc,hr=>by
  simp only[Ty.cells,Af] at hc;obtain⟨c1,c2,f1,f2,rfl,_,h1,h2⟩:=hr;simp only[Ty.enc,←c8y hc.1 h1,←c8y hc.2 h2]
theorem b8z:∀{t:Ty},t.cells=true→t.pure=true
 |.int _,_=>rfl
 |.bool,_=>rfl
 |.str,_=>rfl
 |.unit,_=>rfl
 |.st t,h=>b8z (t:=t) h
 |.pair a b,h=>by
  simp only[Ty.cells,Af] at h;simp[Ty.pure,b8z h.1,b8z h.2]
variable {α:Type} [Inhabited α]
theorem f4o{enc:α→List Value}{k:Nat}(hk:∀x,(enc x).length=k){d:Array α}{c:Array Value}(hc:d.size*k≤c.size){i:Nat}(hi:i<d.size) :
  seg (putCells id 0 (flatK enc k d) c).toList (i*k) k=enc d[i]!:=by
 have hm:=b2f (sz:=k) hi;apply List.ext_getElem?;intro j;unfold seg;rw[AV,Bg];by_cases hj:j<k
 ·rw[if_pos hj];have e1:(i*k+j) / k=i:=(blk_iff k i _ (by omega)).1 ⟨by omega,by omega⟩;have e2:(i*k+j) % k=j:=by rw[Nat.mod_eq_sub_div_mul,e1];omega
  have h1:(putCells id 0 (flatK enc k d) c).toList[i*k+j]?=some (enc d[i]!)[j]!:=by
   rw[Array.getElem?_toList];unfold putCells;rw[Array.getElem?_mapIdx,Array.getElem?_eq_getElem (show i*k+j<c.size by omega)];simp only[Option.map_some,size_flatK];rw[if_pos (by omega)];simp only[id,Nat.sub_zero];rw[get_flatK _ _ _ _ (by omega),e1,e2]
  rw[h1];have hl:=hk d[i]!;generalize enc d[i]! = l at hl ⊢;rw[Bb (by omega),DA,Bb (by omega)];rfl
 ·rw[if_neg hj];exact(BW (by rw[hk];omega)).symm
structure SortW (w w':World) (blk:Nat) (c c':Array Value):Prop where
 os:w'.os=w.os
 out:w'.output=w.output
 tape:w'.tape=w.tape
 size:w.heap.size≤w'.heap.size
 oth:∀q,q<w.heap.size→q≠blk→w'.heap[q]?=w.heap[q]?
 blk:∀el fr,w.heap[blk]?=some (.cells c el fr)→w'.heap[blk]?=some (.cells c' el fr)
theorem g4x{enc:α→List Value}{k:Nat}{blk n:Nat}{d:Array α}{os:Array Obj}{c:Array Value}:SortW w (sortWorldK enc k w blk 0 n d os) blk c (putCells id 0 (flatK enc k d) c) where
 os:=rfl
 out:=rfl
 tape:=rfl
 size:=by simp[sortWorldK,putRowK]
 oth q hq hb:=by
  unfold sortWorldK putRowK;rw[heap_grow_old _ _ (by simpa using hq)];simp only[putRow,mapBlock,heap_ahead,BT];rw[if_neg (Ne.symm hb)]
 blk el fr hb:=by
  have hlt:blk<w.heap.size:=by
   rcases BQ blk w.heap.size with h|h
   ·exact h
   ·simp[Array.getElem?_eq_none h] at hb
  unfold sortWorldK putRowK;rw[heap_grow_old _ _ (by simpa using hlt)];simp only[putRow,mapBlock,heap_ahead,BT];rw[if_pos trivial,hb];rfl
theorem c6d{cf:α→α→Int}(hO:SWO (ltOf cf))(l:List α):(pdq (ltOf cf) l.toArray 0 l.length (BI l.length) true true).toList.Perm l:=by
 have h1:=(pdq_sorts (ltOf cf) hO l.toArray 0 l.length (BI l.length) true true (A8 _) (by simp) (Or.inl rfl)).1;obtain⟨h2,_,h3⟩:=h1;have e1:(pdq (ltOf cf) l.toArray 0 l.length (BI l.length) true true).size=l.length:=by rw[h2];simp
 rw[show(l.toArray.extract 0 l.length).toList=l by simp] at h3;generalize pdq (ltOf cf) l.toArray 0 l.length (BI l.length) true true=d at h3 e1 ⊢;rw[show(d.extract 0 l.length).toList=d.toList by rw[←e1];simp] at h3;exact h3
theorem e6e{cf:α→α→Int}(hO:SWO (ltOf cf))(l:List α):(pdq (ltOf cf) l.toArray 0 l.length (BI l.length) true true).toList.Pairwise fun x y=>ltOf cf y x=false:=by
 have hp:=(c6d hO l).length_eq;have h1:=(pdq_sorts (ltOf cf) hO l.toArray 0 l.length (BI l.length) true true (A8 _) (by simp) (Or.inl rfl)).2;generalize pdq (ltOf cf) l.toArray 0 l.length (BI l.length) true true=d at h1 hp ⊢;have hs:d.size=l.length:=by simpa using hp
 rw[List.pairwise_iff_getElem];intro i j hi hj hij;have:=h1 i j (A8 _) hij (by rw[←hs];simpa using hj);rw[getElem!_pos d i (by simpa using hi),getElem!_pos d j (by simpa using hj)] at this;simpa using this
end Go.Rb

namespace Go.Rb
open Go.Sort Go.Proofs
abbrev tV:Ty:=.st (.pair (.int .i64) (.pair (.int .i64) (.pair .str .unit)))
instance:Inhabited tV.den:=⟨tV.dflt⟩
theorem f6x{α:Type}{cf:α→α→Int}(hr:∀x,cf x x=0)(hs:∀x y,cf y x=- cf x y)(ht:∀x y z,cf x y≤0→cf y z≤0→cf x z≤0):SWO (ltOf cf) where
 irrefl x:=by simp[ltOf,hr]
 trans x y z h1 h2:=by
  simp only[ltOf,decide_eq_true_eq] at *;rcases Int.lt_or_le (cf x z) 0 with h|h
  ·exact h
  ·have a:=hs x z;have b:=ht y z x (by omega) (by omega);have c:=hs x y;omega
 ntrans x y z h1 h2:=by
  simp only[ltOf,decide_eq_false_iff_not] at *;have a:=hs x y;have b:=hs y z;have c:=ht z y x (by omega) (by omega);have d:=hs x z;omega
end Go.Rb

namespace Go.Rb
variable {A:Amb} {P:Program} {C:Ctx} {w w':World} {Z Z':Nat→Prop} {h h':Array Obj}
theorem c7h{T T2 ty el:TypeId}{i:TypeInfo}{z:Value}(ht:P.underlying T=some (.slice el))(h2:P.underlying T2=some (.int .i64))(hi:P.info? el=some i)(hz:i.zero=some z)
  (hzs:z.cells.size=i.size) (hby:1≤i.bytes) {k:Nat} (hk:0<k) (hroom:k*i.bytes≤room) :
  ∃w' cap' c',(A2 #[T,T2] ty #[.slice none 0 0,.int .i64 (k:Int)]).run P w=.ok (.slice (some ⟨w.heap.size,0,none⟩) k cap') w'∧w'.os=w.os∧w'.output=w.output∧w'.tape=w.tape∧w'.heap.size=w.heap.size+1 ∧
   (∀b,b<w.heap.size→w'.heap[b]?=w.heap[b]?)∧BlkE 0 w'.heap w.heap.size c'∧c'.size=cap'*i.size∧k≤cap':=by
 have hnm:k≤room:=AM (BB _ hby) hroom;have h63:¬(9223372036854775807<(k:Int)):=by unfold room at hnm;omega
 have hwk:IntKind.i64.wrap (k:Int)=(k:Int):=by
  unfold room at hnm;simp only[IntKind.wrap,IntKind.bits,IntKind.signed,if_true];simp;split <;> omega
 have hk0:¬((k:Int)<0):=by omega
 have hk48:¬(281474976710656<(k:Int)*(i.bytes:Int)):=by
  have:(k:Int)*(i.bytes:Int)=((k*i.bytes:Nat):Int):=by simp
  rw[this];unfold room at hroom;omega
 have h48:¬(281474976710656<Builtin.nextslicecap k 0*i.bytes):=by
  have:=growslice_fits (need:=k) (old:=0) (bytes:=i.bytes) (by omega) hroom;omega
 let w1:World:=w.drew
 have hw1:w1.heap=w.heap:=rfl;have hge:=grownCap_ge w k 0 el
 let mid:Array Value:=if k*i.size=0 then #[] else B1 z.cells k
 have hmid:mid.size=k*i.size:=by
  simp only[mid];split
  ·rename_i h0;simp[h0]
  ·rw[Et,hzs]
 let cells:Array Value:=mid++B1 z.cells (grownCap w k 0 el - k)
 have hcells:cells.size=grownCap w k 0 el*i.size:=by
  simp only[cells,Array.size_append,Et,hzs,hmid,←AA];congr 1;omega
 obtain⟨w',q1,q2,q3,q4,q5,q6,q7⟩:=a4m (P:=P) (w:=w1) el cells;have hk1:¬(k=0):=by omega
 refine⟨w',grownCap w k 0 el,cells,?_,q2,q3,q4,by rw[q5,hw1],fun b hb=>q6 b hb,q7,hcells,hge⟩;simp only[w1] at q1;by_cases hks:k*i.size=0
 ·have hm0:mid=#[]:=by simp only[mid,hks,if_true]
  simp only[cells,hm0,grownCap,BD,Array.append_empty,Array.empty_append] at q1;simp[A2,An ht,An h2,sizeOf,typeInfo,zeroValue,hi,hz,asInt,asIntOf,hwk,hk0,hk48,hk1,h63,h48,Ds,AD,hks];simp only[grownCap,BD] at q1 ⊢
  first|exact q1|(rw[q1];rfl)
 ·have hm0:mid=B1 z.cells k:=by simp only[mid,hks,if_false]
  simp only[cells,hm0,grownCap,BD] at q1;simp[A2,An ht,An h2,sizeOf,typeInfo,zeroValue,hi,hz,asInt,asIntOf,hwk,hk0,hk48,hk1,h63,h48,Ds,AD,hks];simp only[grownCap,BD] at q1 ⊢
  first|exact q1|(rw[q1];rfl)
def f4c(e:Nat)(te:Ty)(x:Unit×Int×Unit):Option ((List te.den×Unit)×Unit) :=
 if 0≤x.2.1∧x.2.1*e≤room then some (([],()),()) else none
theorem e1q{vs:Array Value}{a b:Value}(h:vs.toList=[a,b]):vs=#[a,b]:=by
 cases vs;simp at h;subst h;rfl
theorem e4r{f:FuncId}{T e:Nat}{te:Ty}(htab:a3c P C)(hT:C.ty T=some (.sl .imm e te))(hI3:P.underlying 3=some (.int .i64)){z:List Value}(hz:zeroCells te=some z)
  (h0:∀w:World,Calls P f #[.slice none 0 0,.int .i64 0] w fun en w'=>en=.returned (.slice none 0 0)∧w'=w)
  (h1:∀(w w1:World) (n cap b:Nat),0<n→n≤140737488355328→n≤cap→(A2 #[T,3] T #[.slice none 0 0,.int .i64 (n:Int)]).run P w=.ok (.slice (some ⟨b,0,none⟩) n cap) w1 →
   Calls P f #[.slice none 0 0,.int .i64 (n:Int)] w fun en w'=>en=.returned (.slice (some ⟨b,0,none⟩) 0 cap)∧w'=w1) :
  a6z A P C f ⟨[.val (.lf .nil0),.val (.int .i64)],[.val (.sl .own e te)]⟩ (f4c e te):=by
 intro x y hy Z w vs fp hglob hzb hargs hnd hdis;unfold f4c at hy;split at hy
 ·rename_i hcond;obtain⟨c1,c2⟩:=hcond;cases hy;obtain⟨u0,i,u⟩:=x;dsimp only at *;obtain⟨v1,vs',cs,f1,f2,hvs,hvc,hrep,⟨v2,vs2,cs2,f3,f4,hvs2,hvc2,hrep2,⟨rfl,rfl⟩,rfl⟩,rfl⟩:=hargs;obtain⟨rfl,rfl,_,_⟩:=hrep2;obtain⟨rfl,hcs⟩:=hrep;have hcs:cs=[.slice none 0 0]:=hcs;subst hcs;obtain rfl:=a0n rfl hvc;obtain rfl:=a0n rfl hvc2;subst hvs2;obtain rfl:=e1q hvs;obtain⟨el,ti,q1,q2,q3,q4,q5,q6,q7,q8,q9⟩:=a9v htab hT;obtain⟨ti',dd,p1,p2,p3,p4,p5⟩:=(htab _ _ q2).ex;rw[q3] at p1;obtain rfl:=Ag p1;obtain⟨zv,p6,p7⟩:=p5 z hz;have hzs:zv.cells.size=ti.size:=by
   have g1:=a6t p7;have g2:=a1j (a6f (A:=A) (P:=P) (Z:=Z) (h:=w.heap) hz);rw[←AN,g1,g2,q9]
  obtain⟨n,rfl⟩:∃n:Nat,i=(n:Int):=⟨i.toNat,(Int.toNat_of_nonneg c1).symm⟩
  have c3:n*e≤room:=by exact_mod_cast c2
  have hnr:n≤room:=AM (BB _ q5) c3;rcases D9 n with hn|hn
  ·subst hn;refine(h0 w).mono fun en w' ⟨he,hw⟩=>?_
   subst hw;refine⟨_,Z,[],[],he,b4e a8i (c1q (m:=.own)),rfl,?_⟩;exact⟨fun b=>id,Ar _,fun _ _ _=>rfl,fun b hb=>.inl hb,fun b hb=>.inl hb,rfl,rfl,rfl,hzb,fun b hb=>by simp at hb,fun b hb=>by simp at hb,by simp⟩
  ·obtain⟨w1,cap,c,g1,g2,g3,g4,g5,g6,g7,g8,g9⟩:=c7h (P:=P) (w:=w) (T:=T) (T2:=3) (ty:=T) q1 hI3 q3 p6 hzs (by rw[q4];exact q5) hn (by rw[q4];exact c3);refine(h1 w w1 n cap w.heap.size hn hnr g9 g1).mono fun en w' ⟨he,hw⟩=>?_
   subst hw;have hnm:NoMk w'.heap w.heap.size:=g7.nm (by decide);refine⟨_,Z,[w.heap.size],[],he,b4e a8i (c6u (n:=0) rfl (A8 _) (by simp) (A8 _) ⟨g7.blk,fun _=>hnm⟩ (by rw[g8,q9]) (fun i hi=>by simp at hi)),rfl,?_⟩;exact⟨fun b=>id,by omega,fun b hb _=>g6 b hb,fun b hb=>.inl hb,fun b hb=>by simp at hb;subst hb;exact .inr (Ar _),g2,g3,g4,fun b hb=>by have:=hzb b hb;omega,
    fun b hb=>by simp at hb;subst hb;omega,fun b hb hz=>by simp at hb;subst hb;have:=hzb _ hz;omega,by simp⟩
 ·cases hy
end Go.Rb

namespace Go.Rb
open Go.Sort Go.Proofs
variable {A:Amb} {P:Program} {C:Ctx} {w w' W:World} {Z Z':Nat→Prop} {h h':Array Obj}
def f7y{t α:Type}[Inhabited α](val:α→t)(lift:List t→Option (List α))(cf:α→α→Int)(x:List t×Unit×Unit):Option (Unit×(List t×Unit)) :=
 (lift x.1).bind fun l=>some ((),(((pdq (ltOf cf) l.toArray 0 l.length (BI l.length) true true).toList.map val,())))
theorem c8b{f g:FuncId}{e:Nat}{t0:Ty}{α:Type}[Inhabited α](hcb:t0.cells=true){val:α→(Ty.st t0).den}{lift:List (Ty.st t0).den→Option (List α)}(hlift:∀l l',lift l=some l'→l=l'.map val){cf:α→α→Int}(hO:SWO (ltOf cf))
  (hnil:∀w,Calls P f #[.slice none 0 0,.func (.func g) #[] #[]] w fun e w'=>e=.returned (.tuple #[])∧w'=w)
  (hraw:∀(blk cap:Nat) (d:Array α) (w:World),HoldsK (fun a=>(Ty.st t0).enc (val a)) (Ty.st t0).size w blk 0 d→blk<w.heap.size→d.size<4611686018427387904 →
   Calls P f #[.slice (some ⟨blk,0,none⟩) d.size cap,.func (.func g) #[] #[]] w fun e w'=>e=.returned (.tuple #[])∧∃n os,w'=sortWorldK (fun a=>(Ty.st t0).enc (val a)) (Ty.st t0).size w blk 0 n (pdq (ltOf cf) d 0 d.size (BI d.size) true true) os) :
  a6z A P C f ⟨[.sio (.sl .own e (.st t0)),.val (.lf (.cfn g))],[]⟩ (f7y val lift cf):=by
 intro x y hy Z w vs fp hglob hzb hargs hnd hdis;obtain⟨l0,u1,u2⟩:=x;obtain⟨l,hl0,hy2⟩:=Bv.1 hy;clear hy;cases hy2;have hl1:=hlift l0 l hl0;subst hl1;clear hl0;have hcs:(Ty.st t0).cells=true:=hcb;obtain⟨v1,vs',cs,f1,f2,hvs,hvc,hrep,⟨v2,vs2,cs2,f3,f4,hvs2,hvc2,hrep2,⟨rfl,rfl⟩,rfl⟩,rfl⟩:=hargs;obtain⟨rfl,hl2⟩:=hrep2;have hl2':cs2=[.func (.func g) #[] #[]]:=hl2;subst hl2';obtain rfl:=a0n rfl hvc2;subst hvs2;obtain rfl:=c4b hvs;simp only[List.append_nil] at hnd hdis ⊢;dsimp only at hrep ⊢;rcases b9n (b8z hcs) hrep with⟨rfl,hl,rfl⟩|⟨b,n,cap,c,rfl,hnl,hcap,hb,hroom,hblk,hc,rfl,hel⟩
 ·obtain rfl:l=[]:=List.map_eq_nil_iff.1 hl;obtain rfl:=a0n rfl hvc;refine(hnil w).mono fun en w' ⟨he,hw⟩=>?_
  subst hw;have e0:(pdq (ltOf cf) (#[]:Array α) 0 0 (BI 0) true true).toList=[]:=List.perm_nil.1 (c6d hO []);refine⟨_,Z,[],[],he,⟨[],⟨rfl,rfl⟩,by simp⟩,⟨_,_,[],[],rfl,a8i,?_,rfl,rfl⟩,?_⟩
  ·show Rep A P (.sl .own e (.st t0)) Z w'.heap _ ((pdq (ltOf cf) (#[]:Array α) 0 0 (BI 0) true true).toList.map val) [];rw[e0];exact hrep
  ·exact⟨fun b=>id,Ar _,fun _ _ _=>rfl,fun b hb=>.inl hb,fun b hb=>.inl hb,rfl,rfl,rfl,hzb,by simp,by simp,by simp⟩
 ·obtain rfl:=a0n rfl hvc;have hdisb:=hdis b (by simp);have hlt:=hblk.lt;have hr:room=140737488355328:=rfl;obtain⟨el,fr,hheap,hfle,hfr⟩:=hblk.blk;have hn':n=l.toArray.size:=by simpa using hnl
  have hel:∀i (hi:i<l.length),Rep A P (.st t0) Z w.heap (seg c.toList (i*(Ty.st t0).size) (Ty.st t0).size) (val l[i]) []:=fun i hi=>by
   have:=hel i (by simpa using hi);rwa [Eh] at this
  have hsz:l.toArray.size*(Ty.st t0).size≤c.size:=by rw[hc,←hn'];exact Ai _ hcap
  have hH:HoldsK (fun a=>(Ty.st t0).enc (val a)) (Ty.st t0).size w b 0 l.toArray:=by
   intro j hj;rw[size_flatK] at hj;have hsp:0<(Ty.st t0).size:=by
    rcases D9 (Ty.st t0).size with h0|h0
    ·rw[h0] at hj;simp at hj
    ·exact h0
   have hq:j / (Ty.st t0).size<l.length:=by
    have:=(Nat.div_lt_iff_lt_mul hsp).2 hj;simpa using this
   have e1:=c8y hcs (hel _ hq);have hmod:=Nat.mod_lt j hsp;have hdm:=Nat.div_add_mod j (Ty.st t0).size;rw[Nat.mul_comm] at hdm;have e2:c[j]?=((Ty.st t0).enc (val l[j / (Ty.st t0).size]))[j % (Ty.st t0).size]?:=by
    rw[←e1];unfold seg;rw[AV,if_pos hmod,Bg,hdm];simp
   refine⟨?_,?_⟩
   ·rw[get_flatK _ _ _ _ hj];simp only[EW,C5,hheap,id];have hll:=Ty.enc_length (t:=.st t0) (val l[j / (Ty.st t0).size]) hcs;rw[if_neg (by simp),e2,Bb (by omega),getElem!_pos l.toArray _ (by simpa using hq)];rw[DA,Bb (by simp;omega)];simp
   ·have:=hfr j (by omega);simp only[EW,World.frozen?,hheap];cases fr;simp at this ⊢;intro h;exact Nat.le_of_not_lt fun h'=>by have:=this h;omega
  rw[hn'];refine(hraw b cap l.toArray w hH hlt (by rw[←hn'];omega)).mono fun en w' ⟨he,m,os,hw⟩=>?_
  have hperm:=c6d hO l;have hS:l.toArray.size=l.length:=by simp
  rw[hS] at hw;generalize hD:pdq (ltOf cf) l.toArray 0 l.length (BI l.length) true true=D at hperm hw;have hDs:D.size=l.length:=by simpa using hperm.length_eq
  have hSW:SortW w w' b c (putCells id 0 (flatK (fun a=>(Ty.st t0).enc (val a)) (Ty.st t0).size D) c):=by rw[hw];exact g4x
  have hnew:=hSW.blk el fr hheap;have hcsz:(putCells id 0 (flatK (fun a=>(Ty.st t0).enc (val a)) (Ty.st t0).size D) c).size=c.size:=by simp[putCells]
  refine⟨_,Z,[],[b],he,⟨[],⟨rfl,rfl⟩,by simp⟩,⟨_,_,[b],[],rfl,a8i,?_,rfl,rfl⟩,?_⟩
  ·show Rep A P (.sl .own e (.st t0)) Z w'.heap _ (D.toList.map val) [b];refine c6u (by simp[hDs]) (by omega) (by rw[←hn'];exact hb) (by omega) ⟨⟨el,fr,hnew,hfle,fun i hi=>hfr i (by omega)⟩,fun he c2 el2 fr2 h2=>?_⟩ (by rw[hcsz,hc]) fun i hi=>?_
   ·rw[hnew] at h2;cases h2;rw[hcsz];exact hblk.nm he c el fr hheap
   ·have hi':i<D.size:=by simpa using hi
    rw[Eh,f4o (fun x=>Ty.enc_length (t:=.st t0) (val x) hcs) (by rw[hDs,←hS];exact hsz) hi'];have hmem:D.toList[i]∈l:=hperm.mem_iff.1 (List.getElem_mem (by simpa using hi'));obtain⟨q,hq,hqe⟩:=List.getElem_of_mem hmem;have e1:=c8y hcs (hel q hq);have h5:=hel q hq;rw[e1] at h5;rw[getElem!_pos D i hi'];rw[show D[i]=D.toList[i] by simp,←hqe];exact a0g h5 (fun b=>id) fun k hk=>hk.elim (fun hk=>hSW.oth k (hzb k hk) fun hkb=>hdisb (hkb ▸ hk)) (by simp)
  ·exact⟨fun b=>id,hSW.size,fun k hk hkb=>hSW.oth k hk (by simpa using hkb),fun b hb=>.inl hb,fun b hb=>.inl hb,hSW.os,hSW.out,hSW.tape,fun b hb=>AU (hzb b hb) hSW.size,
    fun b' hb'=>by
     obtain rfl:b'=b:=by simpa using hb'
     exact AU hlt hSW.size,fun b' hb'=>by
     obtain rfl:b'=b:=by simpa using hb'
     exact hdisb,by simp⟩
end Go.Rb
