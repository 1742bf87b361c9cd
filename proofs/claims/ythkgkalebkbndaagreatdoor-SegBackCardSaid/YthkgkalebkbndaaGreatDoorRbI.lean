/- Rb: contracts by hand: rows of cells that a walk turns; slices.Compact. Own work. -/
import Derived.Test.YthkgkalebkbndaaGreatDoorRbG
import Derived.Laws.Cells
import Derived.Laws.Append
import Derived.Test.YthkgkalebkbndaaGreatDoorRbB
import Derived.Shelf.SlSortCmp.WholeK
import Derived.Test.YthkgkalebkbndaaGreatDoorRbC
import Derived.Test.YthkgkalebkbndaaGreatDoorRbE
import Derived.Deep.OwnRows
import Derived.Below
import Derived.Laws.BytesArg
import Derived.MapKept
set_option autoImplicit false
set_option linter.unusedVariables false
set_option linter.unusedSimpArgs false
namespace Go.Rb
variable {A:Amb} {P:Program} {C:Ctx} {w w' W:World} {Z Z':Nat→Prop} {h h':Array Obj}
structure Away (p:Prop):Prop where
 out:p
structure CW (w:World) (b S sz n:Nat) (X:Nat→List Value) (W:World):Prop where
 os:W.os=w.os
 out:W.output=w.output
 tape:W.tape=w.tape
 size:W.heap.size=w.heap.size
 oth:∀k,k≠b→W.heap[k]?=w.heap[k]?
 blk:∃c,Blk W.heap b c∧c.size=S∧∀i,i<n→seg c.toList (i*sz) sz=X i
 nm:NoMk w.heap b→NoMk W.heap b
variable {b S sz n:Nat} {X Y:Nat→List Value}
theorem CW.congr(hc:CW w b S sz n X W)(h:∀i,i<n→X i=Y i):CW w b S sz n Y W:=by
 obtain⟨c,h1,h2,h3⟩:=hc.blk
 exact { hc with blk:=⟨c,h1,h2,fun i hi=>(h3 i hi).trans (h i hi)⟩ }
theorem CW.drew(hc:CW w b S sz n X W):CW w b S sz n X W.drew:={ hc with }
theorem a6v{i n sz:Nat}(h:i<n):i*sz+sz≤n*sz:=by
 have:=Nat.mul_le_mul_right sz (show i+1≤n from h)
 rwa [Nat.add_mul,Nat.one_mul] at this
theorem CW.load(hc:CW w b S sz n X W)(hS:n*sz≤S){i:Nat}(hi:i<n):Sem.run P (loadCellsFrom ⟨b,i*sz,none⟩ 0 sz #[]) W=.ok (X i).toArray W:=by
 obtain⟨c,⟨el,fr,h1,_⟩,h2,h3⟩:=hc.blk
 have hm:=a6v (sz:=sz) hi
 have hl:(X i).length=sz:=by rw[←h3 i hi];exact a3x (by simp;omega)
 have:=run_loadCells_list (P:=P) (w:=W) ⟨b,i*sz,none⟩ (X i) fun j v hj=>by
  have hjl:j<sz:=by
   rcases Nat.lt_or_ge j (X i).length with h|h
   ·omega
   ·rw[List.getElem?_eq_none h] at hj;cases hj
  rw[a7f rfl]
  rw[←h3 i hi] at hj
  unfold seg at hj
  rw[List.getElem?_take,if_pos hjl,List.getElem?_drop] at hj
  simp only[World.cell?,h1]
  simpa using hj
 rw[hl] at this
 simpa[loadCells] using this
theorem CW.store(hc:CW w b S sz n X W)(hS:n*sz≤S){i:Nat}(hi:i<n){ys:List Value}(hl:ys.length=sz)(h1:∀v,v∈ys→v.oneCell'=true) :
  ∃W',Sem.run P (storeCells ⟨b,i*sz,none⟩ ys 0) W=.ok () W'∧CW w b S sz n (fun j=>if j=i then ys else X j) W':=by
 obtain⟨c,hb,h2,h3⟩:=hc.blk
 have hm:=a6v (sz:=sz) hi
 obtain⟨W',r1,r2,r3,r4,r5,r6⟩:=a2v (P:=P) ys 0 W ⟨b,i*sz,none⟩ c rfl hb (by simp only;omega) h1
 obtain⟨c',k1,k2,k3,k4⟩:=r6.blk hb
 refine⟨W',r1,r2.trans hc.os,r3.trans hc.out,r4.trans hc.tape,(r6.oth2).2.trans hc.size,fun k hk=>((r6.oth2).1 k hk).trans (hc.oth k hk),⟨c',k1,by omega,fun j hj=>?_⟩,fun hm=>r6.nm (hc.nm hm)⟩
 have hmj:=a6v (sz:=sz) hj
 rw[k2]
 by_cases hji:j=i
 ·subst hji
  rw[if_pos rfl]
  exact a6e hl (by simp;omega)
 ·rw[if_neg hji,←h3 j hj]
  refine a3e (by simp only[Array.length_toList];omega) ?_
  rcases Nat.lt_or_ge j i with h|h
  ·exact .inl (by have:=a6v (sz:=sz) h;simpa using this)
  ·have:=a6v (sz:=sz) (show i<j by omega)
   exact .inr (by simp only;omega)
theorem CW.cell(hc:CW w b S sz n X W)(hS:n*sz≤S){i j:Nat}(hi:i<n){v:Value}(hj:(X i)[j]?=some v):W.cell? ⟨b,i*sz+j,none⟩=some v:=by
 obtain⟨c,⟨el,fr,h1,_⟩,h2,h3⟩:=hc.blk
 have hm:=a6v (sz:=sz) hi
 have hl:(X i).length=sz:=by rw[←h3 i hi];exact a3x (by simp;omega)
 have hjl:j<sz:=by
  rcases Nat.lt_or_ge j (X i).length with h|h
  ·omega
  ·rw[List.getElem?_eq_none h] at hj;cases hj
 rw[←h3 i hi] at hj
 unfold seg at hj
 rw[List.getElem?_take,if_pos hjl,List.getElem?_drop] at hj
 simp only[World.cell?,h1]
 simpa using hj
theorem CW.frozen(hc:CW w b S sz n X W)(hS:n*sz≤S){i j:Nat}(hi:i<n)(hj:j<sz):W.frozen? ⟨b,i*sz+j,none⟩=false:=by
 obtain⟨c,⟨el,fr,h1,_,h2⟩,h3,_⟩:=hc.blk
 have hm:=a6v (sz:=sz) hi
 have:=h2 (i*sz+j) (by omega)
 simp only[World.frozen?,h1]
 cases fr
 simp at this ⊢
 intro h
 exact Nat.le_of_not_lt fun h'=>by have:=this h;omega
theorem a9c{ad:Addr}{v:Value}{ys:List Value}{i:Nat}{u:Value}(h1:v.oneCell'=true)(hc:W.cell? (ad.add i)=some u)(hf:W.frozen? (ad.add i)=false) :
  Sem.run P (storeCells ad (v::ys) i) W=Sem.run P (storeCells ad ys (i+1)) (W.setCell (ad.add i) v):=by
 conv=>lhs;unfold storeCells
 simp only[Sem.run_bind,run_store P W (ad.add i) v .plain h1,hc,hf,Bool.false_eq_true,if_false,Result.andThen_ok]
theorem CW.set3(P:Program)(hc:CW w b S 3 n X W)(hS:n*3≤S){i:Nat}(hi:i<n){v0 v1 v2:Value}(h0:v0.oneCell'=true)(h1:v1.oneCell'=true)(h2:v2.oneCell'=true) :
  CW w b S 3 n (fun j=>if j=i then[v0,v1,v2] else X j) (((W.setCell ⟨b,i*3,none⟩ v0).setCell ⟨b,i*3+1,none⟩ v1).setCell ⟨b,i*3+2,none⟩ v2):=by
 obtain⟨W',r1,r2⟩:=hc.store (P:=P) hS hi (ys:=[v0,v1,v2]) rfl (by simp[h0,h1,h2])
 have hm:=a6v (sz:=3) hi
 have hl:(X i).length=3:=by
  obtain⟨c,_,q2,q3⟩:=hc.blk
  rw[←q3 i hi];exact a3x (by simp;omega)
 obtain⟨u0,u1,u2,hu⟩:∃u0 u1 u2,X i=[u0,u1,u2]:=by
  match X i,hl with
  |[a,b,c],_=>exact⟨a,b,c,rfl⟩
 have c0:=hc.cell hS hi (j:=0) (by rw[hu];rfl)
 have c1:=hc.cell hS hi (j:=1) (by rw[hu];rfl)
 have c2:=hc.cell hS hi (j:=2) (by rw[hu];rfl)
 have f0:=hc.frozen hS hi (j:=0) (by omega)
 have f1:=hc.frozen hS hi (j:=1) (by omega)
 have f2:=hc.frozen hS hi (j:=2) (by omega)
 have e0:(⟨b,i*3,none⟩:Addr).add 0=⟨b,i*3,none⟩:=by rw[a7f rfl];rfl
 have e1:(⟨b,i*3,none⟩:Addr).add 1=⟨b,i*3+1,none⟩:=by rw[a7f rfl]
 have e2:(⟨b,i*3,none⟩:Addr).add 2=⟨b,i*3+2,none⟩:=by rw[a7f rfl]
 have key:Sem.run P (storeCells ⟨b,i*3,none⟩ [v0,v1,v2] 0) W=.ok () (((W.setCell ⟨b,i*3,none⟩ v0).setCell ⟨b,i*3+1,none⟩ v1).setCell ⟨b,i*3+2,none⟩ v2):=by
  rw[a9c (u:=u0) h0 (by rw[e0];exact c0) (by rw[e0];exact f0),e0]
  rw[a9c (u:=u1) h1 (by rw[show(0+1)=1 from rfl,e1];rw[World.cell?_setCell_other _ (h:=show(⟨b,i*3,none⟩:Addr)≠⟨b,i*3+1,none⟩ by simp)];exact c1) (by rw[show(0+1)=1 from rfl,e1];rw[World.frozen?_setCell];exact f1),show(0+1)=1 from rfl,e1]
  rw[a9c (u:=u2) h2 (by rw[show(1+1)=2 from rfl,e2];rw[World.cell?_setCell_other _ (h:=show(⟨b,i*3+1,none⟩:Addr)≠⟨b,i*3+2,none⟩ by simp),World.cell?_setCell_other _ (h:=show(⟨b,i*3,none⟩:Addr)≠⟨b,i*3+2,none⟩ by simp)];exact c2) (by rw[show(1+1)=2 from rfl,e2];rw[World.frozen?_setCell,World.frozen?_setCell];exact f2),show(1+1)=2 from rfl,e2]
  rfl
 rw[key] at r1
 cases r1
 exact r2
theorem CW.clear(hc:CW w b S sz n X W){T ty el:TypeId}{z:Value}(ht:P.underlying T=some (.slice el))(hz:∀w,(zeroValue el).run P w=.ok z w)(hzs:z.cells.size=sz)(hz1:∀v,v∈z.cells.toList→v.oneCell'=true){k cap:Nat}(hk:k<n)(hS:n*sz≤S) :
  ∃W',(Builtin.clear_ #[T] ty #[.slice (some ⟨b,k*sz,none⟩) (n - k) cap]).run P W=.ok (.tuple #[]) W'∧CW w b S sz k X W':=by
 obtain⟨c,hb,h2,h3⟩:=hc.blk
 have e:k*sz+(n - k)*sz=n*sz:=by rw[←Nat.add_mul];congr 1;omega
 obtain⟨W',news,r1,r2,r3,r4,r5,r6⟩:=d5m (P:=P) (w:=W) (T:=T) (ty:=ty) (cap:=cap) (n:=n - k) (off:=k*sz) ht hz hzs hz1 hb (by omega) (by omega)
 obtain⟨c',k1,k2,k3,k4⟩:=r6.blk hb
 refine⟨W',r1,r2.trans hc.os,r3.trans hc.out,r4.trans hc.tape,(r6.oth2).2.trans hc.size,fun k hk=>((r6.oth2).1 k hk).trans (hc.oth k hk),⟨c',k1,by omega,fun j hj=>?_⟩,fun hm=>r6.nm (hc.nm hm)⟩
 have hmj:=a6v (sz:=sz) hj
 rw[k2,←h3 j (by omega)]
 exact a3e (by simp only[Array.length_toList];omega) (.inl (by simpa using hmj))
def b7z(eqB:Nat→Nat→Bool)(j:Nat):Bool:=decide (j=0)||!eqB j (j - 1)
def a2x(eqB:Nat→Nat→Bool)(m:Nat):List Nat:=(List.range m).filter (b7z eqB)
variable {eqB:Nat→Nat→Bool} {E:Nat→List Value}
theorem b5t(m:Nat):a2x eqB (m+1)=a2x eqB m++if b7z eqB m=true then[m] else[]:=by
 unfold a2x
 rw[List.range_succ,List.filter_append]
 congr 1
 by_cases h:b7z eqB m=true <;> simp[h]
theorem d3h{m:Nat}(h:∀j,j<m→b7z eqB j=true):a2x eqB m=List.range m:=by
 unfold a2x
 rw[List.filter_eq_self.2 fun j hj=>h j (List.mem_range.1 hj)]
theorem f0k(m:Nat):(a2x eqB m).length≤m:=by
 have:=List.length_filter_le (b7z eqB) (List.range m)
 simpa[a2x] using this
theorem f4t{m j:Nat}(h:j∈a2x eqB m):j<m:=by
 unfold a2x at h
 exact List.mem_range.1 (List.mem_filter.1 h).1
def XK(E:Nat→List Value)(L:List Nat)(j:Nat):List Value:=if j<L.length then E (L.getD j 0) else E j
theorem e5e{k j:Nat}:XK E (List.range k) j=E j:=by
 unfold XK
 split
 ·rename_i h
  congr 1
  have:j<k:=by simpa using h
  simp[List.getD,this]
 ·rfl
theorem g2w{L:List Nat}{m j:Nat}:(if j=L.length then E m else XK E L j)=XK E (L++[m]) j:=by
 unfold XK
 by_cases h:j=L.length
 ·subst h
  simp[List.getD]
 ·rw[if_neg h]
  by_cases h2:j<L.length
  ·rw[if_pos h2,if_pos (by simp;omega)]
   congr 1
   simp only[List.getD,List.getElem?_append,h2,if_true]
  ·rw[if_neg h2,if_neg (by simp;omega)]
theorem f3s{L:List Nat}{j:Nat}(h:L.length≤j):XK E L j=E j:=by
 unfold XK
 rw[if_neg (by omega)]
end Go.Rb

namespace Go.Rb
variable {A:Amb} {P:Program} {C:Ctx} {w w' W:World} {Z Z':Nat→Prop} {h h':Array Obj}
def eqAt(te:Ty)(l:List te.den)(i j:Nat):Bool :=
 match l[i]?,l[j]? with
 |some x,some y=>(te.beq x y).getD false
 |_,_=>false
def d8m(te:Ty)(l:List te.den):List te.den:=(a2x (eqAt te l) l.length).filterMap fun i=>l[i]?
def g1p(te:Ty)(x:List te.den×Unit):Option ((List te.den×Unit)×Unit):=some ((d8m te x.1,()),())
theorem d5n{α:Type}{l:List α}:∀{L:List Nat},(∀i,i∈L→i<l.length)→(L.filterMap fun i=>l[i]?).length=L.length∧∀q (hq:q<L.length) y,(L.filterMap fun i=>l[i]?)[q]?=some y→l[L.getD q 0]?=some y:=by
 intro L
 induction L with
 |nil=>intro _;exact⟨rfl,fun q hq=>absurd hq (Nat.not_lt_zero _)⟩
 |cons a L ih =>
  intro hL
  obtain⟨i1,i2⟩:=ih fun i hi=>hL i (List.mem_cons_of_mem _ hi)
  have ha:l[a]?=some (l[a]'(hL a (List.mem_cons_self ..))):=List.getElem?_eq_getElem _
  rw[List.filterMap_cons_some (h:=ha)]
  refine⟨by simp[i1],fun q hq y hy=>?_⟩
  cases q with
  |zero =>
   simp at hy
   rw[List.getD_cons_zero,ha,hy]
  |succ q =>
   rw[List.getD_cons_succ]
   exact i2 q (by simpa using hq) y (by simpa using hy)
theorem d6f{f:FuncId}{T EL e:Nat}{t0:Ty}(htab:a3h P C)(hT:C.ty T=some (.sl .imm e (.st t0)))(hEL:C.ty EL=some (.st t0))(hu:P.underlying T=some (.slice EL))(h3:(Ty.st t0).size=3){z:List Value}(hz:zeroCells (.st t0)=some z)
  (hok:(Ty.st t0).eqOK=true) (hn:t0.nest<9000) (hbe:∀x y:(Ty.st t0).den,(Ty.st t0).beq x y=some (((Ty.st t0).beq x y).getD false))
  (hnil:∀(w:World),Calls P f #[.slice none 0 0] w fun e w'=>e=.returned (.slice none 0 0)∧w'=w)
  (hraw:∀(w:World) (b S n cap:Nat) (hn:n≤cap) (hroom:n≤140737488355328) (hS:n*3≤S) (E:Nat→List Value) (eqB:Nat→Nat→Bool)
   (hE:∀i,i<n→(E i).length=3∧∀v,v∈E i→v.oneCell'=true)
   (heq:∀i j,i<n→j<n→∀W,(binOp .eql EL (.agg (E i).toArray) (.agg (E j).toArray)).run P W=.ok (.bool (eqB i j)) W)
   (hne:∀i j,i<n→j<n→∀W,(binOp .neq EL (.agg (E i).toArray) (.agg (E j).toArray)).run P W=.ok (.bool (!eqB i j)) W)
   (hgd:∀(op:BinOp) (x y:Operand) i j,∀W,(eqGuard op EL x y (.agg (E i).toArray) (.agg (E j).toArray)).run P W=.ok () W)
   (hcl:∀(k:Nat) X W,k<n→CW w b S 3 n X W→∃W',(Builtin.clear_ #[T] 0 #[.slice (some ⟨b,k*3,none⟩) (n - k) (cap - k)]).run P W=.ok (.tuple #[]) W'∧CW w b S 3 k X W')
   (hcw:CW w b S 3 n E w),Calls P f #[.slice (some ⟨b,0,none⟩) n cap] w fun e w'=>e=.returned (.slice (some ⟨b,0,none⟩) (a2x eqB n).length cap)∧CW w b S 3 (a2x eqB n).length (XK E (a2x eqB n)) w') :
  a8z A P C f ⟨[.val (.sl .own e (.st t0))],[.val (.sl .own e (.st t0))]⟩ (g1p (.st t0)):=by
 intro x y hy Z w vs fp hglob hzb hargs hnd hdis
 cases hy
 obtain⟨l,u⟩:=x
 obtain⟨v,vs',cs,f1,f2,hvs,hvc,hrep,⟨rfl,rfl⟩,rfl⟩:=hargs
 obtain rfl:=c4m hvs
 obtain⟨el,ti,q1,q2,q3,q4,q5,q6,q7,q8,q9⟩:=b0k htab hT
 rw[hu] at q1
 cases q1
 obtain⟨ti',dd,p1,p2,p3,p4,p5⟩:=(htab _ _ hEL).ex
 rw[q3] at p1
 obtain rfl:=Option.some.inj p1
 obtain⟨zv,p6,p7⟩:=p5 z hz
 have hzs:zv.cells.size=(Ty.st t0).size:=by
  have h1:=a7e p7
  have h2:=a1q (a5r (A:=A) (P:=P) (Z:=Z) (h:=w.heap) hz)
  rw[←Array.length_toList,h1,h2]
 have hz1:∀v,v∈zv.cells.toList→v.oneCell'=true:=fun v hv=>by
  rw[a7e p7] at hv
  exact a5y (a5r (A:=A) (P:=P) (Z:=Z) (h:=w.heap) hz) v hv
 have hzv:∀w:World,(zeroValue EL).run P w=.ok zv w:=fun w=>by
  simp[zeroValue,typeInfo,q3,p6]
 simp only[List.append_nil] at hnd hdis ⊢
 dsimp only at hrep ⊢
 rcases e6w q6 hrep with⟨rfl,h2,rfl⟩|⟨b,n,cap,c,rfl,hnl,hcap,hb,hroom,hblk,hc,rfl,hel⟩
 ·subst h2
  obtain rfl:=a1d rfl hvc
  refine(hnil w).mono fun en w' ⟨he,hw⟩=>?_
  subst hw
  refine⟨_,Z,[],[],he,c2i b3s hrep,rfl,?_⟩
  exact⟨fun b=>id,Nat.le_refl _,fun _ _ _=>rfl,fun b hb=>.inl hb,fun b hb=>.inl hb,rfl,rfl,rfl,hzb,by simp,by simp,by simp⟩
 ·obtain rfl:=a1d rfl hvc
  rw[h3] at hc hel hzs
  obtain⟨fs,hfs⟩:∃fs,P.underlying EL=some (.struct fs):=by
   cases dd <;> first|exact⟨_,p2⟩|exact p4.elim
  obtain⟨g1,g2,g3⟩:=(htab _ _ hEL).eq hok fs hfs
  let E:Nat→List Value:=fun i=>seg c.toList (i*3) 3
  have hS:n*3≤cap*3:=Nat.mul_le_mul_right _ hcap
  have hEl:∀i,i<n→(E i).length=3:=fun i hi=>a3x (by have:=a6v (sz:=3) hi;simp;omega)
  have hE1:∀i,i<n→∀v,v∈E i→v.oneCell'=true:=fun i hi=>a5y (hel i (by omega))
  have hvca:∀i,VC (.st t0) (.agg (E i).toArray) (E i):=fun i=>by
   unfold VC
   rw[if_pos (show(Ty.st t0).agg=true from rfl)]
  have heq0:∀i j,i<n→j<n→∀W,(Op.equalIn 10000 EL (.agg (E i).toArray) (.agg (E j).toArray)).run P W=.ok (eqAt (.st t0) l i j) W:=fun i j hi hj W=>by
   have e1:l[i]?=some (l[i]'(by omega)):=List.getElem?_eq_getElem _
   have e2:l[j]?=some (l[j]'(by omega)):=List.getElem?_eq_getElem _
   have:=(e5r (A:=A) (Z:=Z) (h:=w.heap) htab (.st t0)).1 EL 10000 W _ _ _ _ _ _ _ _ _ hEL (by simp only[Ty.nest];omega) hok (hvca i) (hvca j) (hel i (by omega)) (hel j (by omega)) (hbe _ _)
   rw[this]
   unfold eqAt
   rw[e1,e2]
  have hcw:CW w b (cap*3) 3 n E w:=⟨rfl,rfl,rfl,rfl,fun _ _=>rfl,⟨c,hblk.blk,hc,fun _ _=>rfl⟩,id⟩
  refine(hraw w b (cap*3) n cap hcap (by unfold room at hroom;omega) hS E (eqAt (.st t0) l) (fun i hi=>⟨hEl i hi,hE1 i hi⟩) (fun i j hi hj W=>by rw[run_eql_struct,heq0 i j hi hj,Result.andThen_ok]) (fun i j hi hj W=>by rw[run_neq_struct,heq0 i j hi hj,Result.andThen_ok])
   (fun op x y i j W=>run_eqGuard_agg _ _ _ _ _ _ _ g2) (fun k X W hk hX=>hX.clear hu hzv hzs hz1 hk hS) hcw).mono fun en w' ⟨he,hw⟩=>?_
  have hKmem:∀i,i∈a2x (eqAt (.st t0) l) n→i<l.length:=fun i hi=>by have:=f4t hi;omega
  obtain⟨hL1,hL2⟩:=d5n hKmem
  have hcomp:d8m (.st t0) l=(a2x (eqAt (.st t0) l) n).filterMap fun i=>l[i]?:=by unfold d8m;rw[hnl]
  have hKn:=f0k (eqB:=eqAt (.st t0) l) n
  obtain⟨c',m1,m2,m3⟩:=hw.blk
  have hdisb:=hdis b (by simp)
  refine⟨_,Z,[b],[],he,c2i b3s (e6x (by rw[hcomp,hL1]) (by omega) (Nat.le_trans (Nat.mul_le_mul_right _ (by omega)) hb) (by omega) ⟨m1,fun he=>hw.nm (hblk.nm he)⟩ (by rw[m2,h3]) fun q hq=>?_),rfl,⟨fun b=>id,Nat.le_of_eq hw.size.symm,fun k hk hkb=>hw.oth k (by simpa using hkb),fun b hb=>.inl hb,fun b hb=>.inl hb,hw.os,hw.out,hw.tape,fun b hb=>by rw[hw.size];exact hzb b hb,fun b hb=>by rw[hw.size];exact b6v hrep b hb,hdis,by simp⟩⟩
  have hq':q<(a2x (eqAt (.st t0) l) n).length:=by rw[←hL1,←hcomp];exact hq
  have hy:=hL2 q hq' _ (by rw[←hcomp];exact List.getElem?_eq_getElem hq)
  rw[h3,m3 q hq']
  unfold XK
  rw[if_pos hq']
  have hlt:(a2x (eqAt (.st t0) l) n).getD q 0<l.length:=by
   rcases Nat.lt_or_ge ((a2x (eqAt (.st t0) l) n).getD q 0) l.length with h|h
   ·exact h
   ·rw[List.getElem?_eq_none h] at hy;cases hy
  rw[List.getElem?_eq_getElem hlt] at hy
  rw[←Option.some.inj hy]
  exact a0m (hel _ hlt) (fun b=>id) fun k hk=>hk.elim (fun hk=>hw.oth k fun hkb=>hdisb (hkb ▸ hk)) (by simp)
end Go.Rb

namespace Go.Rb
variable {A:Amb} {P:Program} {C:Ctx} {w w':World} {Z Z':Nat→Prop} {h h':Array Obj}
def memW(t:Nat):List Nat→Bool
 |[]=>false
 |a::l=>match Nat.beq t a with
  |true=>true
  |false=>memW t l
theorem e7i{t:Nat}:∀{l:List Nat},memW t l=true→t∈l
 |[],h=>by simp[memW] at h
 |a::l,h=>by
  unfold memW at h
  split at h
  ·rename_i hb
   rw[Nat.eq_of_beq_eq_true hb]
   exact List.mem_cons_self ..
  ·exact List.mem_cons_of_mem _ (e7i h)
def isUs(ws:List Nat)(e:UV)(g:Nat):Option Bool:=match e with
 |.nil=>some false
 |.sent g'=>some (Nat.beq g' g)
 |.node t (.pair (.str _) (.pair (.sent g') .unit))=>match memW t ws with
  |true=>some (Nat.beq g' g)
  |false=>none
 |_=>none
def isFs(ws:List Nat)(x:UV×UV×Unit):Option ((Bool×Unit)×Unit):=match x.2.1 with
 |.sent g=>(isUs ws x.1 g).bind fun b=>some ((b,()),())
 |_=>none
theorem f3i{f:FuncId}{ws:List Nat}{et:Nat}(hA:∀g T a,A.sent g=some (T,a)→T=et)
  (hnil:∀(b:Addr) (w:World),Calls P f #[.nilIface,.iface et (.pointer (some b))] w fun e w'=>e=.returned (.bool false)∧w'=w)
  (hsame:∀(a:Addr) (w:World),Calls P f #[.iface et (.pointer (some a)),.iface et (.pointer (some a))] w fun e w'=>e=.returned (.bool true)∧w'=w)
  (hother:∀(a b:Addr) (ca cb:Array Value) (ta tb:TypeId) (w:World),a≠b→w.heap[a.block]?=some (.cells ca ta (0,0))→w.heap[b.block]?=some (.cells cb tb (0,0)) →
   Calls P f #[.iface et (.pointer (some a)),.iface et (.pointer (some b))] w fun e w'=>e=.returned (.bool false)∧w'=w)
  (hwsame:∀wt,wt∈ws→∀(s:ByteArray) (a:Addr) (w:World),(∃ca ta,w.heap[a.block]?=some (.cells ca ta (0,0)))→Calls P f #[.iface wt (.agg #[.string s,.iface et (.pointer (some a))]),.iface et (.pointer (some a))] w fun e w'=>e=.returned (.bool true)∧RowKit.Below w.heap.size w w')
  (hwother:∀wt,wt∈ws→∀(s:ByteArray) (a b:Addr) (ca cb:Array Value) (ta tb:TypeId) (w:World),a≠b→w.heap[a.block]?=some (.cells ca ta (0,0))→w.heap[b.block]?=some (.cells cb tb (0,0)) →
   Calls P f #[.iface wt (.agg #[.string s,.iface et (.pointer (some a))]),.iface et (.pointer (some b))] w fun e w'=>e=.returned (.bool false)∧RowKit.Below w.heap.size w w') :
  a8z A P C f ⟨[.val .err,.val .err],[.val .bool]⟩ (isFs ws):=by
 intro x y hy Z w vs fp hglob hzb hargs hnd hdis
 obtain⟨e,t,u⟩:=x
 obtain⟨v1,vs',cs,f1,f2,hvs,hvc,hrep,⟨v2,vs2,cs2,f3,f4,hvs2,hvc2,hrep2,⟨rfl,rfl⟩,rfl⟩,rfl⟩:=hargs
 obtain⟨rfl,hc1,v1',rfl,hna,htop⟩:=hrep
 obtain⟨rfl,hc2,v2',rfl,hna2,htop2⟩:=hrep2
 obtain rfl:=a1d rfl hvc
 obtain rfl:=a1d rfl hvc2
 subst hvs2
 obtain rfl:=c5a hvs
 dsimp only at hc1 hc2
 have hfin:∀(b:Bool) {w':World} {en:Ending},en=.returned (.bool b)→RowKit.Below w.heap.size w w'→∃v Z' fr fi,en=.returned v∧d1n A P Z' w'.heap [.val .bool] v (b,()) fr∧b1e A P Z' w'.heap [.val .err,.val .err] [v1,v2] () fi∧Step Z w ([]++([]++[])) Z' w' (fr++fi) :=
  fun b w' en he hb=>⟨_,Z,[],[],he,c2i (by unfold VC;simp[Ty.agg]) ⟨rfl,rfl⟩,rfl,⟨fun b=>id,hb.size,fun k hk _=>hb.block k hk,fun b hb=>.inl hb,by simp,hb.os,hb.output,hb.tape,fun b hz=>Nat.lt_of_lt_of_le (hzb b hz) hb.size,by simp,by simp,by simp⟩⟩
 unfold isFs at hy
 dsimp only at hy
 split at hy
 ·rename_i g
  obtain⟨T,b,hb1,hb2⟩:=hc2
  have hT:=hA g T b hb2
  subst hT
  simp only[List.cons.injEq,and_true] at hb1
  subst hb1
  obtain⟨_,_,cb,tb,hbb⟩:=hglob.amb.at_ g T b hb2
  simp only[Option.bind_eq_some_iff,Option.some.injEq] at hy
  obtain⟨r,hr,rfl⟩:=hy
  unfold isUs at hr
  split at hr
  ·cases hr
   simp only[RepC,List.cons.injEq,and_true] at hc1
   subst hc1
   exact(hnil b w).mono fun en w' ⟨he,hw⟩=>hfin false he (hw ▸ RowKit.Below.refl _ _)
  ·rename_i g'
   cases hr
   obtain⟨T',a,ha1,ha2⟩:=hc1
   have hT':=hA g' T' a ha2
   subst hT'
   simp only[List.cons.injEq,and_true] at ha1
   subst ha1
   obtain⟨_,_,ca,ta,haa⟩:=hglob.amb.at_ g' T' a ha2
   by_cases hgg:g'=g
   ·subst hgg
    rw[ha2] at hb2
    simp only[Option.some.injEq,Prod.mk.injEq,true_and] at hb2
    subst hb2
    rw[show Nat.beq g' g'=true by simp]
    exact(hsame a w).mono fun en w' ⟨he,hw⟩=>hfin true he (hw ▸ RowKit.Below.refl _ _)
   ·have hne:a≠b:=fun h=>hgg (hglob.amb.inj g' g _ _ a ha2 (h ▸ hb2))
    rw[show Nat.beq g' g=false by rw[Bool.eq_false_iff];intro h;exact hgg (Nat.eq_of_beq_eq_true h)]
    exact(hother a b ca cb ta tb w hne haa hbb).mono fun en w' ⟨he,hw⟩=>hfin false he (hw ▸ RowKit.Below.refl _ _)
  ·rename_i t' l g'
   split at hr
   ·rename_i hwt
    have hmem:=e7i hwt
    cases hr
    obtain⟨x,hx1,c1,c2,hx2,⟨s,rfl,_⟩,c3,c4,rfl,⟨T',a,rfl,ha2⟩,hx3⟩:=hc1
    simp only[RepC] at hx3
    subst hx3
    have hT':=hA g' T' a ha2
    subst hT'
    simp only[List.cons.injEq,and_true] at hx1
    subst hx1
    have hxa:x=.agg #[.string s,.iface T' (.pointer (some a))]:=by
     cases x with
     |agg ar =>
      simp only[Value.cells] at hx2
      cases ar
      simp at hx2
      rw[hx2]
     |_=>simp[Value.cells] at hx2
    subst hxa
    obtain⟨_,_,ca,ta,haa⟩:=hglob.amb.at_ g' T' a ha2
    by_cases hgg:g'=g
    ·subst hgg
     rw[ha2] at hb2
     simp only[Option.some.injEq,Prod.mk.injEq,true_and] at hb2
     subst hb2
     rw[show Nat.beq g' g'=true by simp]
     exact(hwsame _ hmem s a w ⟨ca,ta,haa⟩).mono fun en w' ⟨he,hw⟩=>hfin true he hw
    ·have hne:a≠b:=fun h=>hgg (hglob.amb.inj g' g _ _ a ha2 (h ▸ hb2))
     rw[show Nat.beq g' g=false by rw[Bool.eq_false_iff];intro h;exact hgg (Nat.eq_of_beq_eq_true h)]
     exact(hwother _ hmem s a b ca cb ta tb w hne haa hbb).mono fun en w' ⟨he,hw⟩=>hfin false he hw
   ·cases hr
  ·cases hr
 ·cases hy
def cmpI:List Int→List Int→Int
 |[],[]=>0
 |[],_::_=>-1
 |_::_,[]=>1
 |a::x,b::y=>if a<b then -1 else if b<a then 1 else cmpI x y
theorem e3s:∀x y:List UInt8,Lib.compareBytes x y=cmpI (x.map fun b=>(b.toNat:Int)) (y.map fun b=>(b.toNat:Int))
 |[],[]=>rfl
 |[],_::_=>rfl
 |_::_,[]=>rfl
 |a::x,b::y=>by
  simp only[Lib.compareBytes,cmpI,List.map_cons,e3s x y,UInt8.lt_iff_toNat_lt,Int.ofNat_lt]
theorem e2y:∀x y:List Int,-1≤cmpI x y∧cmpI x y≤1
 |[],[]=>by simp[cmpI]
 |[],_::_=>by simp[cmpI]
 |_::_,[]=>by simp[cmpI]
 |a::x,b::y=>by
  have:=e2y x y
  unfold cmpI
  split
  ·omega
  ·split <;> omega
def csF(x:List Int×List Int×Unit):Option ((Int×Unit)×Unit):=some ((cmpI x.1 x.2.1,()),())
theorem c1k{f:FuncId}(hc:∀(s t:ByteArray) (w:World),Calls P f #[.string s,.string t] w fun e w'=>e=.returned (.int .i64 (Lib.compareBytes s.data.toList t.data.toList))∧w'=w) :
  a8z A P C f ⟨[.val .str,.val .str],[.val (.int .i64)]⟩ csF:=by
 intro x y hy Z w vs fp hglob hzb hargs hnd hdis
 cases hy
 obtain⟨l,c,u⟩:=x
 obtain⟨v1,vs',cs,f1,f2,hvs,hvc,hrep,⟨v2,vs2,cs2,f3,f4,hvs2,hvc2,hrep2,⟨rfl,rfl⟩,rfl⟩,rfl⟩:=hargs
 obtain⟨rfl,s,rfl,hl,hsz⟩:=hrep
 obtain⟨rfl,t,rfl,hl2,hsz2⟩:=hrep2
 obtain rfl:=a1d rfl hvc
 obtain rfl:=a1d rfl hvc2
 subst hvs2
 obtain rfl:=c5a hvs
 dsimp only at hl hl2 ⊢
 subst hl hl2
 refine(hc s t w).mono fun en w' ⟨he,hw⟩=>?_
 subst hw
 rw[e3s] at he
 refine⟨_,Z,[],[],he,c2i (f9j rfl (by simp)) ⟨rfl,rfl,?_⟩,rfl,f0j hzb⟩
 have hb:=e2y (a1p s) (a1p t)
 have hm:(IntKind.i64).max=9223372036854775807:=rfl
 have hn:(IntKind.i64).min=-9223372036854775808:=rfl
 show(IntKind.i64).min≤cmpI (a1p s) (a1p t)∧cmpI (a1p s) (a1p t)≤(IntKind.i64).max
 rw[hm,hn]
 omega
end Go.Rb

namespace Go.Rb
open Go.Sort Go.Proofs
variable {A:Amb} {P:Program} {C:Ctx} {w w' W:World} {Z Z':Nat→Prop} {h h':Array Obj}
def Ty.cells:Ty→Bool
 |.int _|.bool|.str|.unit=>true
 |.st t=>t.cells
 |.pair a b=>a.cells&&b.cells
 |_=>false
def Ty.enc:(t:Ty)→t.den→List Value
 |.int k,x=>[.int k x]
 |.bool,x=>[.bool x]
 |.str,x=>[.string (toBA x)]
 |.st t,x=>t.enc x
 |.pair a b,x=>a.enc x.1++b.enc x.2
 |_,_=>[]
theorem Ty.enc_length:∀{t:Ty} (x:t.den),t.cells=true→(t.enc x).length=t.size
 |.int _,_,_=>rfl
 |.bool,_,_=>rfl
 |.str,_,_=>rfl
 |.unit,_,_=>rfl
 |.st t,x,h=>Ty.enc_length (t:=t) x h
 |.pair a b,x,h=>by
  simp only[Ty.cells,Bool.and_eq_true] at h
  simp[Ty.enc,Ty.size,Ty.enc_length x.1 h.1,Ty.enc_length x.2 h.2]
theorem Ty.enc_one:∀{t:Ty} (x:t.den) (v:Value),v∈t.enc x→v.oneCell'=true
 |.int _,_,v,h=>by simp[Ty.enc] at h;subst h;rfl
 |.bool,_,v,h=>by simp[Ty.enc] at h;subst h;rfl
 |.str,_,v,h=>by simp[Ty.enc] at h;subst h;rfl
 |.st t,x,v,h=>Ty.enc_one (t:=t) x v h
 |.pair a b,x,v,h=>by
  simp only[Ty.enc,List.mem_append] at h
  exact h.elim (Ty.enc_one x.1 v) (Ty.enc_one x.2 v)
theorem c8u:∀{t:Ty} {cs:List Value} {x:t.den} {fp:List Nat},t.cells=true→Rep A P t Z h cs x fp→cs=t.enc x
 |.int _,_,_,_,_,hr=>hr.2.1
 |.bool,_,_,_,_,hr=>hr.2
 |.str,_,_,_,_,hr=>by
  obtain⟨_,s,rfl,rfl,_⟩:=hr
  simp[Ty.enc,e8s]
 |.unit,_,_,_,_,hr=>hr.1
 |.st t,_,_,_,hc,hr=>c8u (t:=t) hc hr
 |.pair a b,_,_,_,hc,hr=>by
  simp only[Ty.cells,Bool.and_eq_true] at hc
  obtain⟨c1,c2,f1,f2,rfl,_,h1,h2⟩:=hr
  simp only[Ty.enc,←c8u hc.1 h1,←c8u hc.2 h2]
theorem b9v:∀{t:Ty},t.cells=true→t.pure=true
 |.int _,_=>rfl
 |.bool,_=>rfl
 |.str,_=>rfl
 |.unit,_=>rfl
 |.st t,h=>b9v (t:=t) h
 |.pair a b,h=>by
  simp only[Ty.cells,Bool.and_eq_true] at h
  simp[Ty.pure,b9v h.1,b9v h.2]
variable {α:Type} [Inhabited α]
theorem f7b{enc:α→List Value}{k:Nat}(hk:∀x,(enc x).length=k){d:Array α}{c:Array Value}(hc:d.size*k≤c.size){i:Nat}(hi:i<d.size) :
  seg (putCells id 0 (flatK enc k d) c).toList (i*k) k=enc d[i]!:=by
 have hm:=a6v (sz:=k) hi
 apply List.ext_getElem?
 intro j
 unfold seg
 rw[List.getElem?_take,List.getElem?_drop]
 by_cases hj:j<k
 ·rw[if_pos hj]
  have e1:(i*k+j) / k=i:=(blk_iff k i _ (by omega)).1 ⟨by omega,by omega⟩
  have e2:(i*k+j) % k=j:=by rw[Nat.mod_eq_sub_div_mul,e1];omega
  have h1:(putCells id 0 (flatK enc k d) c).toList[i*k+j]?=some (enc d[i]!)[j]!:=by
   rw[Array.getElem?_toList]
   unfold putCells
   rw[Array.getElem?_mapIdx,Array.getElem?_eq_getElem (show i*k+j<c.size by omega)]
   simp only[Option.map_some,size_flatK]
   rw[if_pos (by omega)]
   simp only[id,Nat.sub_zero]
   rw[get_flatK _ _ _ _ (by omega),e1,e2]
  rw[h1]
  have hl:=hk d[i]!
  generalize enc d[i]! = l at hl ⊢
  rw[List.getElem?_eq_getElem (by omega),List.getElem!_eq_getElem?_getD,List.getElem?_eq_getElem (by omega)]
  rfl
 ·rw[if_neg hj]
  exact(List.getElem?_eq_none (by rw[hk];omega)).symm
structure SortW (w w':World) (blk:Nat) (c c':Array Value):Prop where
 os:w'.os=w.os
 out:w'.output=w.output
 tape:w'.tape=w.tape
 size:w.heap.size≤w'.heap.size
 oth:∀q,q<w.heap.size→q≠blk→w'.heap[q]?=w.heap[q]?
 blk:∀el fr,w.heap[blk]?=some (.cells c el fr)→w'.heap[blk]?=some (.cells c' el fr)
theorem g7b{enc:α→List Value}{k:Nat}{blk n:Nat}{d:Array α}{os:Array Obj}{c:Array Value}:SortW w (sortWorldK enc k w blk 0 n d os) blk c (putCells id 0 (flatK enc k d) c) where
 os:=rfl
 out:=rfl
 tape:=rfl
 size:=by simp[sortWorldK,putRowK]
 oth q hq hb:=by
  unfold sortWorldK putRowK
  rw[heap_grow_old _ _ (by simpa using hq)]
  simp only[putRow,mapBlock,heap_ahead,Array.getElem?_modify]
  rw[if_neg (Ne.symm hb)]
 blk el fr hb:=by
  have hlt:blk<w.heap.size:=by
   rcases Nat.lt_or_ge blk w.heap.size with h|h
   ·exact h
   ·simp[Array.getElem?_eq_none h] at hb
  unfold sortWorldK putRowK
  rw[heap_grow_old _ _ (by simpa using hlt)]
  simp only[putRow,mapBlock,heap_ahead,Array.getElem?_modify]
  rw[if_pos trivial,hb]
  rfl
def g3m(t:Ty)[Inhabited t.den](cf:t.den→t.den→Int)(x:List t.den×Unit×Unit):Option (Unit×(List t.den×Unit)) :=
 some ((),((pdq (ltOf cf) x.1.toArray 0 x.1.length (Lib.bitLen x.1.length) true true).toList,()))
theorem c7r{cf:α→α→Int}(hO:SWO (ltOf cf))(l:List α):(pdq (ltOf cf) l.toArray 0 l.length (Lib.bitLen l.length) true true).toList.Perm l:=by
 have h1:=(pdq_sorts (ltOf cf) hO l.toArray 0 l.length (Lib.bitLen l.length) true true (Nat.zero_le _) (by simp) (Or.inl rfl)).1
 obtain⟨h2,_,h3⟩:=h1
 have e1:(pdq (ltOf cf) l.toArray 0 l.length (Lib.bitLen l.length) true true).size=l.length:=by rw[h2];simp
 rw[show(l.toArray.extract 0 l.length).toList=l by simp] at h3
 generalize pdq (ltOf cf) l.toArray 0 l.length (Lib.bitLen l.length) true true=d at h3 e1 ⊢
 rw[show(d.extract 0 l.length).toList=d.toList by rw[←e1];simp] at h3
 exact h3
theorem e7k{cf:α→α→Int}(hO:SWO (ltOf cf))(l:List α):(pdq (ltOf cf) l.toArray 0 l.length (Lib.bitLen l.length) true true).toList.Pairwise fun x y=>ltOf cf y x=false:=by
 have hp:=(c7r hO l).length_eq
 have h1:=(pdq_sorts (ltOf cf) hO l.toArray 0 l.length (Lib.bitLen l.length) true true (Nat.zero_le _) (by simp) (Or.inl rfl)).2
 generalize pdq (ltOf cf) l.toArray 0 l.length (Lib.bitLen l.length) true true=d at h1 hp ⊢
 have hs:d.size=l.length:=by simpa using hp
 rw[List.pairwise_iff_getElem]
 intro i j hi hj hij
 have:=h1 i j (Nat.zero_le _) hij (by rw[←hs];simpa using hj)
 rw[getElem!_pos d i (by simpa using hi),getElem!_pos d j (by simpa using hj)] at this
 simpa using this
theorem d1j{f g:FuncId}{e:Nat}{t0:Ty}[Inhabited (Ty.st t0).den](hcb:t0.cells=true){cf:(Ty.st t0).den→(Ty.st t0).den→Int}(hO:SWO (ltOf cf))
  (hnil:∀w,Calls P f #[.slice none 0 0,.func (.func g) #[] #[]] w fun e w'=>e=.returned (.tuple #[])∧w'=w)
  (hraw:∀(blk cap:Nat) (d:Array (Ty.st t0).den) (w:World),HoldsK (Ty.st t0).enc (Ty.st t0).size w blk 0 d→blk<w.heap.size→d.size<4611686018427387904 →
   Calls P f #[.slice (some ⟨blk,0,none⟩) d.size cap,.func (.func g) #[] #[]] w fun e w'=>e=.returned (.tuple #[])∧∃n os,w'=sortWorldK (Ty.st t0).enc (Ty.st t0).size w blk 0 n (pdq (ltOf cf) d 0 d.size (Lib.bitLen d.size) true true) os) :
  a8z A P C f ⟨[.sio (.sl .own e (.st t0)),.val (.lf (.cfn g))],[]⟩ (g3m (.st t0) cf):=by
 intro x y hy Z w vs fp hglob hzb hargs hnd hdis
 cases hy
 obtain⟨l,u1,u2⟩:=x
 have hcs:(Ty.st t0).cells=true:=hcb
 obtain⟨v1,vs',cs,f1,f2,hvs,hvc,hrep,⟨v2,vs2,cs2,f3,f4,hvs2,hvc2,hrep2,⟨rfl,rfl⟩,rfl⟩,rfl⟩:=hargs
 obtain⟨rfl,hl2⟩:=hrep2
 have hl2':cs2=[.func (.func g) #[] #[]]:=hl2
 subst hl2'
 obtain rfl:=a1d rfl hvc2
 subst hvs2
 obtain rfl:=c5a hvs
 simp only[List.append_nil] at hnd hdis ⊢
 dsimp only at hrep ⊢
 rcases e6w (b9v hcs) hrep with⟨rfl,rfl,rfl⟩|⟨b,n,cap,c,rfl,hnl,hcap,hb,hroom,hblk,hc,rfl,hel⟩
 ·obtain rfl:=a1d rfl hvc
  refine(hnil w).mono fun en w' ⟨he,hw⟩=>?_
  subst hw
  have e0:(pdq (ltOf cf) (#[]:Array (Ty.st t0).den) 0 0 (Lib.bitLen 0) true true).toList=[]:=List.perm_nil.1 (c7r hO [])
  refine⟨_,Z,[],[],he,⟨[],⟨rfl,rfl⟩,by simp⟩,⟨_,_,[],[],rfl,b3s,?_,rfl,rfl⟩,?_⟩
  ·show Rep A P (.sl .own e (.st t0)) Z w'.heap _ ((pdq (ltOf cf) (#[]:Array (Ty.st t0).den) 0 0 (Lib.bitLen 0) true true).toList) []
   rw[e0]
   exact hrep
  ·exact⟨fun b=>id,Nat.le_refl _,fun _ _ _=>rfl,fun b hb=>.inl hb,fun b hb=>.inl hb,rfl,rfl,rfl,hzb,by simp,by simp,by simp⟩
 ·obtain rfl:=a1d rfl hvc
  have hdisb:=hdis b (by simp)
  have hlt:=hblk.lt
  have hr:room=140737488355328:=rfl
  obtain⟨el,fr,hheap,hfle,hfr⟩:=hblk.blk
  have hn':n=l.toArray.size:=by simpa using hnl
  have hsz:l.toArray.size*(Ty.st t0).size≤c.size:=by rw[hc,←hn'];exact Nat.mul_le_mul_right _ hcap
  have hH:HoldsK (Ty.st t0).enc (Ty.st t0).size w b 0 l.toArray:=by
   intro j hj
   rw[size_flatK] at hj
   have hsp:0<(Ty.st t0).size:=by
    rcases Nat.eq_zero_or_pos (Ty.st t0).size with h0|h0
    ·rw[h0] at hj;simp at hj
    ·exact h0
   have hq:j / (Ty.st t0).size<l.length:=by
    have:=(Nat.div_lt_iff_lt_mul hsp).2 hj
    simpa using this
   have e1:=c8u hcs (hel _ hq)
   have hmod:=Nat.mod_lt j hsp
   have hdm:=Nat.div_add_mod j (Ty.st t0).size
   rw[Nat.mul_comm] at hdm
   have e2:c[j]?=((Ty.st t0).enc l[j / (Ty.st t0).size])[j % (Ty.st t0).size]?:=by
    rw[←e1]
    unfold seg
    rw[List.getElem?_take,if_pos hmod,List.getElem?_drop,hdm]
    simp
   refine⟨?_,?_⟩
   ·rw[get_flatK _ _ _ _ hj]
    simp only[Nat.zero_add,World.cell?,hheap,id]
    have hll:=Ty.enc_length (t:=.st t0) l[j / (Ty.st t0).size] hcs
    rw[if_neg (by simp),e2,List.getElem?_eq_getElem (by omega),getElem!_pos l.toArray _ (by simpa using hq)]
    rw[List.getElem!_eq_getElem?_getD,List.getElem?_eq_getElem (by simp;omega)]
    simp
   ·have:=hfr j (by omega)
    simp only[Nat.zero_add,World.frozen?,hheap]
    cases fr
    simp at this ⊢
    intro h
    exact Nat.le_of_not_lt fun h'=>by have:=this h;omega
  rw[hn']
  refine(hraw b cap l.toArray w hH hlt (by rw[←hn'];omega)).mono fun en w' ⟨he,m,os,hw⟩=>?_
  have hperm:=c7r hO l
  have hS:l.toArray.size=l.length:=by simp
  rw[hS] at hw
  generalize hD:pdq (ltOf cf) l.toArray 0 l.length (Lib.bitLen l.length) true true=D at hperm hw
  have hDs:D.size=l.length:=by simpa using hperm.length_eq
  have hSW:SortW w w' b c (putCells id 0 (flatK (Ty.st t0).enc (Ty.st t0).size D) c):=by rw[hw];exact g7b
  have hnew:=hSW.blk el fr hheap
  have hcsz:(putCells id 0 (flatK (Ty.st t0).enc (Ty.st t0).size D) c).size=c.size:=by simp[putCells]
  refine⟨_,Z,[],[b],he,⟨[],⟨rfl,rfl⟩,by simp⟩,⟨_,_,[b],[],rfl,b3s,?_,rfl,rfl⟩,?_⟩
  ·show Rep A P (.sl .own e (.st t0)) Z w'.heap _ D.toList [b]
   refine e6x (by simp[hDs]) (by omega) (by rw[←hn'];exact hb) (by omega) ⟨⟨el,fr,hnew,hfle,fun i hi=>hfr i (by omega)⟩,fun he c2 el2 fr2 h2=>?_⟩ (by rw[hcsz,hc]) fun i hi=>?_
   ·rw[hnew] at h2
    cases h2
    rw[hcsz]
    exact hblk.nm he c el fr hheap
   ·have hi':i<D.size:=by simpa using hi
    rw[f7b (fun x=>Ty.enc_length (t:=.st t0) x hcs) (by rw[hDs,←hS];exact hsz) hi']
    have hmem:D.toList[i]∈l:=hperm.mem_iff.1 (List.getElem_mem hi)
    obtain⟨q,hq,hqe⟩:=List.getElem_of_mem hmem
    have e1:=c8u hcs (hel q hq)
    have h5:=hel q hq
    rw[e1] at h5
    rw[getElem!_pos D i hi']
    rw[show D[i]=D.toList[i] by simp,←hqe]
    exact a0m h5 (fun b=>id) fun k hk=>hk.elim (fun hk=>hSW.oth k (hzb k hk) fun hkb=>hdisb (hkb ▸ hk)) (by simp)
  ·exact⟨fun b=>id,hSW.size,fun k hk hkb=>hSW.oth k hk (by simpa using hkb),fun b hb=>.inl hb,fun b hb=>.inl hb,hSW.os,hSW.out,hSW.tape,fun b hb=>Nat.lt_of_lt_of_le (hzb b hb) hSW.size,
    fun b' hb'=>by
     obtain rfl:b'=b:=by simpa using hb'
     exact Nat.lt_of_lt_of_le hlt hSW.size,fun b' hb'=>by
     obtain rfl:b'=b:=by simpa using hb'
     exact hdisb,by simp⟩
end Go.Rb

namespace Go.Rb
open Go.Sort Go.Proofs
def a9k(t:Int):Int:=if t=0 then 0 else if t=4 then 2 else 1
def cmpZ(x y:Int):Int:=if x<y then -1 else if y<x then 1 else 0
def cmpV(t i:Int)(s:ByteArray)(t' i':Int)(s':ByteArray):Int :=
 if cmpZ (a9k t) (a9k t')≠0∨t=0 then cmpZ (a9k t) (a9k t') else if t=4 then Lib.compareBytes s.data.toList s'.data.toList else cmpZ i i'
theorem four(W:World)(a b c d:Obj):((((W.alloc a).alloc b).alloc c).alloc d).drew=grow (W.drewN 1) #[a,b,c,d]:=by
 rw[alloc_eq_grow,alloc_eq_grow,alloc_eq_grow,alloc_eq_grow,grow_grow,grow_grow,grow_grow]
 rfl
abbrev tV:Ty:=.st (.pair (.int .i64) (.pair (.int .i64) (.pair .str .unit)))
instance:Inhabited tV.den:=⟨tV.dflt⟩
def cfV(x y:tV.den):Int:=cmpV x.1 x.2.1 (toBA x.2.2.1) y.1 y.2.1 (toBA y.2.2.1)
theorem g4y{α:Type}{cf:α→α→Int}(hr:∀x,cf x x=0)(hs:∀x y,cf y x=- cf x y)(ht:∀x y z,cf x y≤0→cf y z≤0→cf x z≤0):SWO (ltOf cf) where
 irrefl x:=by simp[ltOf,hr]
 trans x y z h1 h2:=by
  simp only[ltOf,decide_eq_true_eq] at *
  rcases Int.lt_or_le (cf x z) 0 with h|h
  ·exact h
  ·have a:=hs x z
   have b:=ht y z x (by omega) (by omega)
   have c:=hs x y
   omega
 ntrans x y z h1 h2:=by
  simp only[ltOf,decide_eq_false_iff_not] at *
  have a:=hs x y
  have b:=hs y z
  have c:=ht z y x (by omega) (by omega)
  have d:=hs x z
  omega
theorem d8g(x y:Int):cmpZ y x=- cmpZ x y:=by
 unfold cmpZ
 repeat' split
 all_goals omega
theorem c7z{x y:Int}:cmpZ x y≤0↔x≤y:=by
 unfold cmpZ
 repeat' split
 all_goals omega
theorem g1b{x y:Int}:cmpZ x y<0↔x<y:=by
 unfold cmpZ
 repeat' split
 all_goals omega
theorem b4m{x y:Int}:cmpZ x y=0↔x=y:=by
 unfold cmpZ
 repeat' split
 all_goals omega
theorem c3a:∀x,cmpI x x=0
 |[]=>rfl
 |a::x=>by simp[cmpI,c3a x]
theorem b5f:∀x y,cmpI y x=- cmpI x y
 |[],[]=>rfl
 |[],_::_=>rfl
 |_::_,[]=>rfl
 |a::x,b::y=>by
  have:=b5f x y
  unfold cmpI
  repeat' split
  all_goals omega
theorem c5d:∀x y z,cmpI x y≤0→cmpI y z≤0→cmpI x z≤0
 |[],_,z,_,_=>by cases z <;> simp[cmpI]
 |_::_,[],_,h,_=>by simp[cmpI] at h
 |_::_,_::_,[],_,h=>by simp[cmpI] at h
 |a::x,b::y,c::z,h1,h2=>by
  have ih:=c5d x y z
  unfold cmpI at h1 h2 ⊢
  repeat' split at h1
  all_goals repeat' split at h2
  all_goals repeat' split
  all_goals omega
theorem d4r:∀x y,cmpI x y=0→x=y
 |[],[],_=>rfl
 |[],_::_,h=>by simp[cmpI] at h
 |_::_,[],h=>by simp[cmpI] at h
 |a::x,b::y,h=>by
  unfold cmpI at h
  split at h
  ·omega
  ·split at h
   ·omega
   ·rw[d4r x y h,show a=b by omega]
theorem a7p:∀x y,a2f x y=decide (cmpI x y<0)
 |[],[]=>rfl
 |[],_::_=>rfl
 |_::_,[]=>rfl
 |a::x,b::y=>by
  have:=a7p x y
  unfold a2f cmpI
  rw[this]
  by_cases h1:a<b
  ·simp[h1]
  ·by_cases h2:b<a
   ·have:¬a=b:=by omega
    simp[h1,h2,this]
   ·have:a=b:=by omega
    simp[this]
def d3q(l:List Int):List Int:=a1p (toBA l)
theorem c7b(s t:ByteArray):Lib.compareBytes s.data.toList t.data.toList=cmpI (a1p s) (a1p t):=e3s _ _
theorem c7x(x y:tV.den):cfV x y=if cmpZ (a9k x.1) (a9k y.1)≠0∨x.1=0 then cmpZ (a9k x.1) (a9k y.1) else if x.1=4 then cmpI (d3q x.2.2.1) (d3q y.2.2.1) else cmpZ x.2.1 y.2.1:=by
 unfold cfV cmpV d3q
 rw[c7b]
theorem e6c(t t':Int):a9k t=a9k t'↔(t=0∧t'=0)∨(t=4∧t'=4)∨(t≠0∧t≠4∧t'≠0∧t'≠4):=by
 unfold a9k
 repeat' split
 all_goals omega
theorem f5w(x:tV.den):cfV x x=0:=by
 rw[c7x]
 have h1:cmpZ (a9k x.1) (a9k x.1)=0:=b4m.2 rfl
 have h2:cmpZ x.2.1 x.2.1=0:=b4m.2 rfl
 rw[h1,h2,c3a]
 simp
theorem f7r(x y:tV.den):cfV y x=- cfV x y:=by
 rw[c7x,c7x,d8g (a9k x.1),d8g x.2.1,b5f (d3q x.2.2.1)]
 by_cases h:cmpZ (a9k x.1) (a9k y.1)=0
 ·have hr:=(e6c x.1 y.1).1 (b4m.1 h)
  rw[h]
  rcases hr with⟨h1,h2⟩|⟨h1,h2⟩|⟨h1,h2,h3,h4⟩
  ·simp[h1,h2]
  ·simp[h1,h2]
  ·simp[h1,h2,h3,h4]
 ·rw[if_pos (.inl (by omega)),if_pos (.inl h)]
theorem f5c(x y z:tV.den)(h1:cfV x y≤0)(h2:cfV y z≤0):cfV x z≤0:=by
 have key:∀a b:tV.den,cfV a b≤0→a9k a.1≤a9k b.1:=fun a b h=>by
  rw[c7x] at h
  split at h
  ·exact c7z.1 h
  ·rename_i hn
   simp only[not_or,ne_eq,Decidable.not_not] at hn
   have:=b4m.1 hn.1
   omega
 have k1:=key _ _ h1
 have k2:=key _ _ h2
 by_cases h:cmpZ (a9k x.1) (a9k z.1)=0
 ·have e:=b4m.1 h
  have e1:a9k x.1=a9k y.1:=by omega
  have e2:a9k y.1=a9k z.1:=by omega
  rw[c7x] at *
  rw[b4m.2 e1] at h1
  rw[b4m.2 e2] at h2
  rw[h]
  rcases(e6c _ _).1 e1 with⟨q1,q2⟩|⟨q1,q2⟩|⟨q1,q2,q3,q4⟩
  ·simp[q1]
  ·rw[if_neg (by simp[q1]),if_pos q1] at h1
   rw[if_neg (by simp[q2]),if_pos q2] at h2
   rw[if_neg (by simp[q1]),if_pos q1]
   exact c5d _ _ _ h1 h2
  ·rw[if_neg (by simp[q1]),if_neg q2] at h1
   rw[if_neg (by simp[q3]),if_neg q4] at h2
   rw[if_neg (by simp[q1]),if_neg q2]
   exact c7z.2 (Int.le_trans (c7z.1 h1) (c7z.1 h2))
 ·rw[c7x,if_pos (.inl h)]
  exact c7z.2 (by omega)
theorem swoV:SWO (ltOf cfV):=g4y f5w f7r f5c
end Go.Rb

namespace Go.Rb
variable {A:Amb} {P:Program} {C:Ctx} {Z Z':Nat→Prop} {h h':Array Obj}
theorem Ty.le_self:∀{t:Ty},t.pure=true→t.le t=true
 |.int _,_|.bool,_|.str,_|.err,_|.unit,_|.fn _ _,_|.fn2 _ _ _,_|.ptr _,_|.lf _,_=>by simp[Ty.le]
 |.slh _ _,h=>by simp[Ty.pure] at h
 |.sl .imm e t,h=>by
  have h1:t.pure=true:=h
  simp[Ty.le,Ty.le_self h1,h1,Md.le]
 |.sl .own e t,h=>by simp[Ty.pure] at h
 |.sl .hole e t,h=>by simp[Ty.pure] at h
 |.st t,h=>Ty.le_self (t:=t) h
 |.arr n t,h=>by
  have h1:t.pure=true:=h
  simp[Ty.le,Ty.le_self h1]
 |.pair a b,h=>by
  simp only[Ty.pure,Bool.and_eq_true] at h
  simp[Ty.le,Ty.le_self h.1,Ty.le_self h.2]
def Ty.free:Ty→Bool
 |.int _|.bool|.str|.err|.unit=>true
 |.sl .own _ t=>t.free
 |.sl _ _ _=>false
 |.st t|.arr _ t=>t.free
 |.pair a b=>a.free&&b.free
 |_=>false
theorem b5p:∀{t:Ty} {cs:List Value} {x:t.den} {fp:List Nat},t.free=true→Rep A P t Z h cs x fp→Rep A P t Z' h cs x fp
 |.int _,_,_,_,_,hr=>hr
 |.bool,_,_,_,_,hr=>hr
 |.str,_,_,_,_,hr=>hr
 |.err,_,_,_,_,hr=>hr
 |.unit,_,_,_,_,hr=>hr
 |.sl .own e t,cs,x,fp,hf,hr=>by
  obtain⟨a,n,cap,h0,h1,h2,h3,h4,h5⟩:=hr
  refine⟨a,n,cap,h0,h1,h2,h3,h4,?_⟩
  rcases h5 with h5|⟨b,c,fps,g1,g2,g3,g4,g5,g6⟩
  ·exact .inl h5
  ·exact .inr ⟨b,c,fps,g1,g2,g3,g4,g5,fun i hi=>b5p (t:=t) hf (g6 i hi)⟩
 |.sl .imm _ _,_,_,_,hf,_=>by simp[Ty.free] at hf
 |.sl .hole _ _,_,_,_,hf,_=>by simp[Ty.free] at hf
 |.st t,_,_,_,hf,hr=>b5p (t:=t) hf hr
 |.arr n t,cs,x,fp,hf,hr=>by
  obtain⟨h1,h2,h3,h4,h5⟩:=hr
  exact⟨h1,h2,h3,h4,fun i hi=>b5p (t:=t) hf (h5 i hi)⟩
 |.pair a b,cs,x,fp,hf,hr=>by
  simp only[Ty.free,Bool.and_eq_true] at hf
  obtain⟨c1,c2,f1,f2,h1,h2,h3,h4⟩:=hr
  exact⟨c1,c2,f1,f2,h1,h2,b5p (t:=a) hf.1 h3,b5p (t:=b) hf.2 h4⟩
 |.slh _ _,_,_,_,hf,_=>by simp[Ty.free] at hf
 |.fn _ _,_,_,_,hf,_=>by simp[Ty.free] at hf
 |.fn2 _ _ _,_,_,_,hf,_=>by simp[Ty.free] at hf
 |.ptr _,_,_,_,hf,_=>by simp[Ty.free] at hf
 |.lf _,_,_,_,hf,_=>by simp[Ty.free] at hf
def f4d(rs:List RS):Bool:=rs.all fun|.val t=>t.free|.box t=>t.free
theorem c4v:∀{rs:List RS} {vs:List Value} {y:b3o rs} {fp:List Nat},f4d rs=true→c6w A P Z h rs vs y fp→c6w A P Z' h rs vs y fp
 |[],_,_,_,_,hr=>hr
 |.val t::rs,vs,y,fp,hf,hr=>by
  simp only[f4d,List.all_cons,Bool.and_eq_true] at hf
  obtain⟨v,vs',f1,f2,h1,⟨cs,h2,h3⟩,h4,h5⟩:=hr
  exact⟨v,vs',f1,f2,h1,⟨cs,h2,b5p hf.1 h3⟩,c4v hf.2 h4,h5⟩
 |.box t::rs,vs,y,fp,hf,hr=>by
  simp only[f4d,List.all_cons,Bool.and_eq_true] at hf
  obtain⟨v,vs',f1,f2,h1,⟨b,c,f3,h2,h3,h4,h6⟩,h7,h5⟩:=hr
  exact⟨v,vs',f1,f2,h1,⟨b,c,f3,h2,h3,b5p hf.1 h4,h6⟩,c4v hf.2 h7,h5⟩
theorem e8e{rs:List RS}{v:Value}{y:b3o rs}{fp:List Nat}(hf:f4d rs=true)(hr:d1n A P Z h rs v y fp):d1n A P Z' h rs v y fp:=by
 obtain⟨vs,h1,h2⟩:=hr
 exact⟨vs,c4v hf h1,h2⟩
def g3r(e:Nat)(te:Ty):(ts:List Ty)→a2q (ts.map PS.val++[.sio (.sl .own e te)])→a2q (ts.map PS.val++[.val (.sl .imm e te)])
 |[],x=>x
 |_::ts,x=>(x.1,g3r e te ts x.2)
def g1d(e:Nat)(te:Ty):(ts:List Ty)→a2q (ts.map PS.val++[.sio (.sl .own e te)])→b0c (ts.map PS.val++[.sio (.sl .own e te)])
 |[],x=>x
 |_::ts,x=>g1d e te ts x.2
theorem d8c{e:Nat}{te:Ty}(hte:te.pure=true):∀{ts:List Ty} {vs:List Value} {x:a2q (ts.map PS.val++[.sio (.sl .own e te)])} {fp:List Nat},ts.all Ty.pure=true →
  a6k A P Z h (ts.map PS.val++[.sio (.sl .own e te)]) vs x fp →
  a6k A P (fun b=>Z b∨b∈fp) h (ts.map PS.val++[.val (.sl .imm e te)]) vs (g3r e te ts x) [] ∧
  ∀(Z':Nat→Prop) (h':Array Obj),(∀b,Z b→Z' b)→(∀b,Z b∨b∈fp→h'[b]?=h[b]?)→b1e A P Z' h' (ts.map PS.val++[.sio (.sl .own e te)]) vs (g1d e te ts x) fp
 |[],vs,x,fp,_,hr=>by
  obtain⟨v,vs',cs,f1,f2,hvs,hvc,hrep,⟨rfl,rfl⟩,rfl⟩:=hr
  have hle:(Ty.sl .own e te).le (.sl .imm e te)=true:=by simp[Ty.le,Ty.le_self hte,hte,Md.le]
  obtain⟨fp',fz,hp,hf⟩:=b6y hle (HEq.rfl) hrep
  have hfr:Rep A P (.sl .imm e te) (fun b=>Z b∨b∈f1++[]) h cs x.1 fp':=hf _ (fun b=>.inl) fun b hb=>.inr (by rw[List.append_nil];exact hp.symm.subset (List.mem_append_right _ hb))
  have hnil:fp'=[]:=by obtain⟨_,_,_,_,h1,_⟩:=hfr;exact h1
  subst hnil
  exact⟨⟨v,[],cs,[],[],hvs,a8o (by simp[Ty.imm]) hvc,hfr,⟨rfl,rfl⟩,rfl⟩,fun Z' h' hz hh=>⟨v,cs,f1,[],by rw[hvs];rfl,hvc,a0m hrep hz fun b hb=>hh b (by simpa using hb),rfl,by simp⟩⟩
 |t::ts,vs,x,fp,hts,hr=>by
  simp only[List.all_cons,Bool.and_eq_true] at hts
  obtain⟨v,vs',cs,f1,f2,hvs,hvc,hrep,hrest,rfl⟩:=hr
  obtain rfl:f1=[]:=a1o hrep hts.1
  obtain⟨g1,g2⟩:=d8c hte (ts:=ts) hts.2 hrest
  refine⟨⟨v,vs',cs,[],[],hvs,hvc,a0m hrep (fun b=>.inl) fun _ _=>rfl,g1,rfl⟩,fun Z' h' hz hh=>?_⟩
  have:=g2 Z' h' hz hh
  rw[hvs]
  exact this
theorem e7w{f:FuncId}{e:Nat}{te:Ty}{ts:List Ty}{rs:List RS}{G:a2q (ts.map PS.val++[.val (.sl .imm e te)])→Option (b3o rs×b0c (ts.map PS.val++[.val (.sl .imm e te)]))}
  (hte:te.pure=true) (hts:ts.all Ty.pure=true) (hrs:f4d rs=true) (hS:a8z A P C f ⟨ts.map PS.val++[.val (.sl .imm e te)],rs⟩ G) :
  a8z A P C f ⟨ts.map PS.val++[.sio (.sl .own e te)],rs⟩ (fun x=>(G (g3r e te ts x)).map fun y=>(y.1,g1d e te ts x)):=by
 intro x y hy Z w vs fp hglob hzb hargs hnd hdis
 obtain⟨y0,hy0,rfl⟩:=Option.map_eq_some_iff.1 hy
 obtain⟨g1,g2⟩:=d8c hte hts hargs
 have hfb:∀b,b∈fp→b<w.heap.size:=b5b hargs
 refine(hS _ _ hy0 (fun b=>Z b∨b∈fp) w vs [] (hglob.mono (fun b=>.inl) fun _ _=>rfl) (fun b hb=>hb.elim (hzb b) (hfb b)) g1 List.nodup_nil (by simp)).mono ?_
 rintro en w' ⟨v,Z2,fr,fi,he,hres,hios,hst⟩
 have hfi:fi=[]:=b3h (by simp[a4f]) hios
 subst hfi
 rw[List.append_nil] at hst
 refine⟨v,fun b=>Z2 b∧b∉fp,fr,fp,he,e8e hrs hres,g2 _ _ (fun b hb=>⟨hst.z b (.inl hb),fun hf=>hdis b hf hb⟩) (fun b hb=>hst.keep b (hb.elim (hzb b) (hfb b)) (by simp)),?_⟩
 refine⟨fun b hb=>⟨hst.z b (.inl hb),fun hf=>hdis b hf hb⟩,hst.size,fun b hb _=>hst.keep b hb (by simp),?_,?_,hst.os,hst.out,hst.tape,fun b hb=>hst.zb b hb.1,?_,?_,?_⟩
 ·rintro b ⟨hb,hn⟩
  rcases hst.znew b hb with(h1|h1)|h1|h1
  ·exact .inl h1
  ·exact absurd h1 hn
  ·simp at h1
  ·exact .inr (.inr h1)
 ·intro b hb
  rcases List.mem_append.1 hb with hb|hb
  ·rcases hst.fnew b hb with h1|h1
   ·simp at h1
   ·exact .inr h1
  ·exact .inl hb
 ·intro b hb
  rcases List.mem_append.1 hb with hb|hb
  ·exact hst.fb b hb
  ·exact Nat.lt_of_lt_of_le (hfb b hb) hst.size
 ·intro b hb hz
  rcases List.mem_append.1 hb with hb|hb
  ·exact hst.disj b hb hz.1
  ·exact hz.2 hb
 ·refine List.nodup_append.2 ⟨hst.nodup,hnd,fun a ha b hb hab=>?_⟩
  subst hab
  exact hst.disj a ha (hst.z a (.inr hb))
def f8b(rs:List RS):Bool:=rs.all fun|.val t=>t.pure|.box _=>false
theorem d2c:∀{rs:List RS} {vs:List Value} {y:b3o rs} {fp:List Nat},f8b rs=true→c6w A P Z h rs vs y fp→fp=[]∧∀Z':Nat→Prop,(∀b,Z b→Z' b)→c6w A P Z' h rs vs y []
 |[],_,_,_,_,hr=>⟨hr.2,fun _ _=>⟨hr.1,rfl⟩⟩
 |.val t::rs,vs,y,fp,hf,hr=>by
  simp only[f8b,List.all_cons,Bool.and_eq_true] at hf
  obtain⟨v,vs',f1,f2,h1,⟨cs,h2,h3⟩,h4,rfl⟩:=hr
  obtain rfl:=a1o h3 hf.1
  obtain⟨rfl,g⟩:=d2c hf.2 h4
  exact⟨rfl,fun Z' hz=>⟨v,vs',[],[],h1,⟨cs,h2,a0m h3 hz fun _ _=>rfl⟩,g Z' hz,rfl⟩⟩
 |.box t::rs,vs,y,fp,hf,hr=>by simp[f8b] at hf
theorem e0o:∀{ps:List PS} (_:a4f ps=true) (Z:Nat→Prop) (vs:List Value) (y:b0c ps),b1e A P Z h ps vs y []
 |[],_,_,_,_=>rfl
 |.val _::ps,hv,Z,vs,y=>e0o (ps:=ps) (by unfold a4f at *;rw[List.all_cons,Bool.and_eq_true] at hv;exact hv.2) Z vs.tail y
 |.io _::_,hv,_,_,_=>by simp[a4f] at hv
 |.sio _::_,hv,_,_,_=>by simp[a4f] at hv
theorem e3n{f:FuncId}{e:Nat}{te:Ty}{ps:List PS}{rs:List RS}{G:a2q ps→Option (b3o (.val (.sl .own e te)::rs)×b0c ps)}
  (hte:te.pure=true) (hrs:f8b rs=true) (hvals:a4f ps=true) (hS:a8z A P C f ⟨ps,.val (.sl .own e te)::rs⟩ G) :
  a8z A P C f ⟨ps,.val (.sl .imm e te)::rs⟩ G:=by
 intro x y hy Z w vs fp hglob hzb hargs hnd hdis
 refine(hS x y hy Z w vs fp hglob hzb hargs hnd hdis).mono ?_
 rintro en w' ⟨v,Z2,fr,fi,he,⟨vs',h1,h2⟩,hios,hst⟩
 have hfi:fi=[]:=b3h hvals hios
 subst hfi
 rw[List.append_nil] at hst
 obtain⟨v1,vs2,f1,f2,g1,⟨cs,g2,g3⟩,g4,rfl⟩:=h1
 obtain⟨rfl,g5⟩:=d2c hrs g4
 rw[List.append_nil] at hst
 have hle:(Ty.sl .own e te).le (.sl .imm e te)=true:=by simp[Ty.le,Ty.le_self hte,hte,Md.le]
 obtain⟨fp',fz,hp,hf⟩:=b6y hle (HEq.rfl) g3
 have hfr:Rep A P (.sl .imm e te) (fun b=>Z2 b∨b∈f1) w'.heap cs y.1.1 fp':=hf _ (fun b=>.inl) fun b hb=>.inr (hp.symm.subset (List.mem_append_right _ hb))
 have hnil:fp'=[]:=by obtain⟨_,_,_,_,h1,_⟩:=hfr;exact h1
 subst hnil
 refine⟨v,fun b=>Z2 b∨b∈f1,[],[],he,⟨vs',⟨v1,vs2,[],[],g1,⟨cs,a8o (by simp[Ty.imm]) g2,hfr⟩,g5 _ fun b=>.inl,rfl⟩,h2⟩,e0o hvals _ _ _,?_⟩
 refine⟨fun b hb=>.inl (hst.z b hb),hst.size,hst.keep,?_,by simp,hst.os,hst.out,hst.tape,?_,by simp,by simp,by simp⟩
 ·rintro b (hb|hb)
  ·exact hst.znew b hb
  ·exact .inr (hst.fnew b hb)
 ·rintro b (hb|hb)
  ·exact hst.zb b hb
  ·exact hst.fb b hb
end Go.Rb

namespace Go.Rb
open Go.RowKit
variable {A:Amb} {P:Program} {C:Ctx} {Z Z':Nat→Prop} {h h':Array Obj}
end Go.Rb

namespace Go.Rb
variable {A:Amb} {P:Program} {C:Ctx} {w:World} {Z Z':Nat→Prop}
def c8v(q:Int×Nat×Nat):Value:=.agg #[.func (.func q.2.1) #[] #[],.func (.func q.2.2) #[] #[]]
def b4p(l:List (Int×Nat×Nat)):Array MapEntry:=(l.zipIdx.map fun q=>({ key:=.int .i64 q.1.1,val:=c8v q.1,born:=q.2 }:MapEntry)).toArray
def b4s(w:World)(l:List (Int×Nat×Nat)):World:=w.alloc (.map (b4p l) l.length)
theorem e0q(w:World)(l:List (Int×Nat×Nat)):(b4s w l).heap[w.heap.size]?=some (.map (b4p l) l.length):=by
 show(w.heap.push (.map (b4p l) l.length))[w.heap.size]?=_
 rw[Array.getElem?_push,if_pos rfl]
theorem e9m(l:List (Int×Nat×Nat))(q:Int×Nat×Nat):(b4p l).push { key:=.int .i64 q.1,val:=c8v q,born:=l.length }=b4p (l++[q]):=by
 unfold b4p
 rw[List.zipIdx_append]
 simp
theorem c9f(k:Int):∀(es:List MapEntry) (i:Nat),(∀e,e∈es→∃q,e.key=.int .i64 q∧k≠q)→Instr.findNow (.int .i64) (.int .i64 k) es i=some none
 |[],_,_=>rfl
 |e::es,i,h=>by
  obtain⟨q,h1,h2⟩:=h e (by simp)
  have:(k==q)=false:=by simpa using h2
  unfold Instr.findNow
  rw[h1]
  simp only[Instr.sameNow,if_true,this]
  exact c9f k es (i+1) fun e he=>h e (List.mem_cons_of_mem _ he)
theorem a7v{T K E:TypeId}(hT:P.underlying T=some (.map K E))(hK:P.underlying K=some (.int .i64))(l:List (Int×Nat×Nat))(q:Int×Nat×Nat)(hq:∀x,x∈l→q.1≠x.1) :
  (Instr.mapUpdate T (.map (some w.heap.size)) (.int .i64 q.1) (c8v q)).run P (b4s w l)=.ok () (b4s w (l++[q])):=by
 have hget:=e0q w l
 have hgo:(getObj w.heap.size).run P (b4s w l)=.ok (.map (b4p l) l.length) (b4s w l):=by simp only[getObj,Sem.run,hget]
 have hset:(setObj w.heap.size (.map ((b4p l).push { key:=.int .i64 q.1,val:=c8v q,born:=l.length }) (l.length+1))).run P (b4s w l)=.ok () { b4s w l with heap:=(b4s w l).heap.setIfInBounds w.heap.size (.map ((b4p l).push { key:=.int .i64 q.1,val:=c8v q,born:=l.length }) (l.length+1)) }:=by
  simp[setObj,Sem.run,hget]
 have hck:∀n w,(Instr.checkKey false (n+1) K (.int .i64 q.1)).run P w=.ok () w:=by
  intro n w
  unfold Instr.checkKey
  simp[run_underlying hK]
 have hfn:=c9f q.1 (b4p l).toList 0 (by
  intro e he
  simp only[b4p,List.mem_map] at he
  obtain⟨x,hx,rfl⟩:=he
  exact⟨_,rfl,hq _ (List.fst_mem_of_mem_zipIdx hx)⟩)
 have hw:({ b4s w l with heap:=(b4s w l).heap.setIfInBounds w.heap.size (.map ((b4p l).push { key:=.int .i64 q.1,val:=c8v q,born:=l.length }) (l.length+1)) }:World)=b4s w (l++[q]):=by
  rw[e9m]
  have:(w.heap.push (.map (b4p l) l.length)).setIfInBounds w.heap.size (.map (b4p (l++[q])) (l.length+1))=w.heap.push (.map (b4p (l++[q])) (l++[q]).length):=by
   rw[List.length_append,List.length_singleton]
   apply Array.ext_getElem?
   intro i
   by_cases hi:i=w.heap.size
   ·subst hi;simp
   ·rw[Array.getElem?_setIfInBounds_ne (Ne.symm hi)]
    simp only[Array.getElem?_push,hi,if_false]
  show({ w with heap:=(w.heap.push (.map (b4p l) l.length)).setIfInBounds w.heap.size (.map (b4p (l++[q])) (l.length+1)) }:World)={ w with heap:=w.heap.push (.map (b4p (l++[q])) (l++[q]).length) }
  rw[this]
 unfold Instr.mapUpdate
 simp[run_underlying hT,run_underlying hK,hgo,hck,Instr.findKey,hfn,hset]
 exact hw
theorem f3y{ops:Array Oper}{o:Oper}{rest:List Oper}{a:Act}{w1:World}{Q:Exit→Act→World→Prop}(hg:o.guard=none)(hd:o.dst=none)(hr:(execOp a.eval o).run P w=.ok .skip w1)(h:wpList P ops Q rest a w1) :
  wpList P ops Q (o::rest) a w :=
 wpList_plain hg fun K hK=>by
  unfold Oper.wp
  rw[hr,Oper.upon_skip,hd]
  exact hK _ _ h
theorem b7w{ops:Array Oper}{o:Oper}{rest:List Oper}{a:Act}{w1:World}{Q:Exit→Act→World→Prop}(hg:o.guard=none)(hd:o.dst=none)(T:TypeId)(m k x:Operand)(hop:o.op=.insert T m k x)
  (hr:(Instr.mapUpdate T (a.eval m) (a.eval k) (a.eval x)).run P w=.ok () w1) (h:wpList P ops Q rest a w1):wpList P ops Q (o::rest) a w :=
 f3y hg hd (by simp[execOp,hop,hr]) h
theorem d8a{f:FuncId}{l:List (Int×Nat×Nat)}(hraw:∀w,Calls P f #[] w fun e w'=>e=.returned (.map (some w.heap.size))∧w'=b4s w l) :
  a8z A P C f ⟨[],[.val (.lf (.fmap l))]⟩ (fun _=>some (((),()),())):=by
 intro x y hy Z w vs fp hglob hzb hargs hnd hdis
 obtain rfl:=Option.some.inj hy
 obtain⟨hvs,rfl⟩:=hargs
 have hvs':vs=#[]:=by apply Array.toList_inj.1;simpa using hvs
 subst hvs'
 refine(hraw w).mono ?_
 rintro en w' ⟨rfl,rfl⟩
 have hget:=e0q w l
 have hsz:(b4s w l).heap.size=w.heap.size+1:=Array.size_push _
 have hold:∀b,b<w.heap.size→(b4s w l).heap[b]?=w.heap[b]?:=fun b hb=>by
  show(w.heap.push (.map (b4p l) l.length))[b]?=_
  rw[Array.getElem?_push,if_neg (Nat.ne_of_lt hb)]
 refine⟨_,fun b=>Z b∨b=w.heap.size,[],[],rfl,c2i (cs:=[.map (some w.heap.size)]) (a1e rfl rfl (by simp)) ⟨rfl,w.heap.size,b4p l,l.length,rfl,.inr rfl,hget,?_⟩,rfl,?_⟩
 ·simp only[b4p,List.map_map]
  have:(l.zipIdx.map fun q=>q.1)=l:=List.zipIdx_map_fst 0 l
  conv=>rhs;rw[←this,List.map_map]
  rfl
 ·refine⟨fun b=>.inl,by omega,fun b hb _=>hold b hb,?_,by simp,rfl,rfl,rfl,?_,by simp,by simp,by simp⟩
  ·rintro b (hb|rfl)
   ·exact .inl hb
   ·exact .inr (.inr (Nat.le_refl _))
  ·rintro b (hb|rfl)
   ·have:=hzb b hb;omega
   ·omega
end Go.Rb

namespace Go.Rb
variable {A:Amb} {P:Program} {C:Ctx} {w w':World} {Z Z':Nat→Prop} {h h':Array Obj}
theorem d0z{T T2 ty el:TypeId}{i:TypeInfo}{z:Value}(ht:P.underlying T=some (.slice el))(h2:P.underlying T2=some (.int .i64))(hi:P.info? el=some i)(hz:i.zero=some z)
  (hzs:z.cells.size=i.size) (hby:1≤i.bytes) {k:Nat} (hk:0<k) (hroom:k*i.bytes≤room) :
  ∃w' cap' c',(Builtin.append_ #[T,T2] ty #[.slice none 0 0,.int .i64 (k:Int)]).run P w=.ok (.slice (some ⟨w.heap.size,0,none⟩) k cap') w'∧w'.os=w.os∧w'.output=w.output∧w'.tape=w.tape∧w'.heap.size=w.heap.size+1 ∧
   (∀b,b<w.heap.size→w'.heap[b]?=w.heap[b]?)∧BlkE 0 w'.heap w.heap.size c'∧c'.size=cap'*i.size∧k≤cap':=by
 have hnm:k≤room:=Nat.le_trans (Nat.le_mul_of_pos_right _ hby) hroom
 have h63:¬(9223372036854775807<(k:Int)):=by unfold room at hnm;omega
 have hwk:IntKind.i64.wrap (k:Int)=(k:Int):=by
  unfold room at hnm
  simp only[IntKind.wrap,IntKind.bits,IntKind.signed,if_true]
  simp
  split <;> omega
 have hk0:¬((k:Int)<0):=by omega
 have hk48:¬(281474976710656<(k:Int)*(i.bytes:Int)):=by
  have:(k:Int)*(i.bytes:Int)=((k*i.bytes:Nat):Int):=by simp
  rw[this]
  unfold room at hroom
  omega
 have h48:¬(281474976710656<Builtin.nextslicecap k 0*i.bytes):=by
  have:=growslice_fits (need:=k) (old:=0) (bytes:=i.bytes) (by omega) hroom
  omega
 let w1:World:=w.drew
 have hw1:w1.heap=w.heap:=rfl
 have hge:=grownCap_ge w k 0 el
 let mid:Array Value:=if k*i.size=0 then #[] else Builtin.zeroCells z.cells k
 have hmid:mid.size=k*i.size:=by
  simp only[mid]
  split
  ·rename_i h0;simp[h0]
  ·rw[size_zeroCells,hzs]
 let cells:Array Value:=mid++Builtin.zeroCells z.cells (grownCap w k 0 el - k)
 have hcells:cells.size=grownCap w k 0 el*i.size:=by
  simp only[cells,Array.size_append,size_zeroCells,hzs,hmid,←Nat.add_mul]
  congr 1;omega
 obtain⟨w',q1,q2,q3,q4,q5,q6,q7⟩:=a5o (P:=P) (w:=w1) el cells
 have hk1:¬(k=0):=by omega
 refine⟨w',grownCap w k 0 el,cells,?_,q2,q3,q4,by rw[q5,hw1],fun b hb=>q6 b hb,q7,hcells,hge⟩
 simp only[w1] at q1
 by_cases hks:k*i.size=0
 ·have hm0:mid=#[]:=by simp only[mid,hks,if_true]
  simp only[cells,hm0,grownCap,Array.append_assoc,Array.append_empty,Array.empty_append] at q1
  simp[Builtin.append_,run_underlying ht,run_underlying h2,sizeOf,typeInfo,zeroValue,hi,hz,asInt,asIntOf,hwk,hk0,hk48,hk1,h63,h48,Question.forced,Builtin.firstCells,hks]
  simp only[grownCap,Array.append_assoc] at q1 ⊢
  first|exact q1|(rw[q1];rfl)
 ·have hm0:mid=Builtin.zeroCells z.cells k:=by simp only[mid,hks,if_false]
  simp only[cells,hm0,grownCap,Array.append_assoc] at q1
  simp[Builtin.append_,run_underlying ht,run_underlying h2,sizeOf,typeInfo,zeroValue,hi,hz,asInt,asIntOf,hwk,hk0,hk48,hk1,h63,h48,Question.forced,Builtin.firstCells,hks]
  simp only[grownCap,Array.append_assoc] at q1 ⊢
  first|exact q1|(rw[q1];rfl)
def f7s(e:Nat)(te:Ty)(x:Unit×Int×Unit):Option ((List te.den×Unit)×Unit) :=
 if 0≤x.2.1∧x.2.1*e≤room then some (([],()),()) else none
theorem e4h{vs:Array Value}{a b:Value}(h:vs.toList=[a,b]):vs=#[a,b]:=by
 cases vs;simp at h;subst h;rfl
theorem f0h{f:FuncId}{T e:Nat}{te:Ty}(htab:a3h P C)(hT:C.ty T=some (.sl .imm e te))(hI3:P.underlying 3=some (.int .i64)){z:List Value}(hz:zeroCells te=some z)
  (h0:∀w:World,Calls P f #[.slice none 0 0,.int .i64 0] w fun en w'=>en=.returned (.slice none 0 0)∧w'=w)
  (h1:∀(w w1:World) (n cap b:Nat),0<n→n≤140737488355328→n≤cap→(Builtin.append_ #[T,3] T #[.slice none 0 0,.int .i64 (n:Int)]).run P w=.ok (.slice (some ⟨b,0,none⟩) n cap) w1 →
   Calls P f #[.slice none 0 0,.int .i64 (n:Int)] w fun en w'=>en=.returned (.slice (some ⟨b,0,none⟩) 0 cap)∧w'=w1) :
  a8z A P C f ⟨[.val (.lf .nil0),.val (.int .i64)],[.val (.sl .own e te)]⟩ (f7s e te):=by
 intro x y hy Z w vs fp hglob hzb hargs hnd hdis
 unfold f7s at hy
 split at hy
 ·rename_i hcond
  obtain⟨c1,c2⟩:=hcond
  cases hy
  obtain⟨u0,i,u⟩:=x
  dsimp only at *
  obtain⟨v1,vs',cs,f1,f2,hvs,hvc,hrep,⟨v2,vs2,cs2,f3,f4,hvs2,hvc2,hrep2,⟨rfl,rfl⟩,rfl⟩,rfl⟩:=hargs
  obtain⟨rfl,rfl,_,_⟩:=hrep2
  obtain⟨rfl,hcs⟩:=hrep
  have hcs:cs=[.slice none 0 0]:=hcs
  subst hcs
  obtain rfl:=a1d rfl hvc
  obtain rfl:=a1d rfl hvc2
  subst hvs2
  obtain rfl:=e4h hvs
  obtain⟨el,ti,q1,q2,q3,q4,q5,q6,q7,q8,q9⟩:=b0k htab hT
  obtain⟨ti',dd,p1,p2,p3,p4,p5⟩:=(htab _ _ q2).ex
  rw[q3] at p1
  obtain rfl:=Option.some.inj p1
  obtain⟨zv,p6,p7⟩:=p5 z hz
  have hzs:zv.cells.size=ti.size:=by
   have g1:=a7e p7
   have g2:=a1q (a5r (A:=A) (P:=P) (Z:=Z) (h:=w.heap) hz)
   rw[←Array.length_toList,g1,g2,q9]
  obtain⟨n,rfl⟩:∃n:Nat,i=(n:Int):=⟨i.toNat,(Int.toNat_of_nonneg c1).symm⟩
  have c3:n*e≤room:=by exact_mod_cast c2
  have hnr:n≤room:=Nat.le_trans (Nat.le_mul_of_pos_right _ q5) c3
  rcases Nat.eq_zero_or_pos n with hn|hn
  ·subst hn
   refine(h0 w).mono fun en w' ⟨he,hw⟩=>?_
   subst hw
   refine⟨_,Z,[],[],he,c2i b3s (c1u (m:=.own)),rfl,?_⟩
   exact⟨fun b=>id,Nat.le_refl _,fun _ _ _=>rfl,fun b hb=>.inl hb,fun b hb=>.inl hb,rfl,rfl,rfl,hzb,fun b hb=>by simp at hb,fun b hb=>by simp at hb,by simp⟩
  ·obtain⟨w1,cap,c,g1,g2,g3,g4,g5,g6,g7,g8,g9⟩:=d0z (P:=P) (w:=w) (T:=T) (T2:=3) (ty:=T) q1 hI3 q3 p6 hzs (by rw[q4];exact q5) hn (by rw[q4];exact c3)
   refine(h1 w w1 n cap w.heap.size hn hnr g9 g1).mono fun en w' ⟨he,hw⟩=>?_
   subst hw
   have hnm:NoMk w'.heap w.heap.size:=g7.nm (by decide)
   refine⟨_,Z,[w.heap.size],[],he,c2i b3s (e6x (n:=0) rfl (Nat.zero_le _) (by simp) (Nat.zero_le _) ⟨g7.blk,fun _=>hnm⟩ (by rw[g8,q9]) (fun i hi=>by simp at hi)),rfl,?_⟩
   exact⟨fun b=>id,by omega,fun b hb _=>g6 b hb,fun b hb=>.inl hb,fun b hb=>by simp at hb;subst hb;exact .inr (Nat.le_refl _),g2,g3,g4,fun b hb=>by have:=hzb b hb;omega,
    fun b hb=>by simp at hb;subst hb;omega,fun b hb hz=>by simp at hb;subst hb;have:=hzb _ hz;omega,by simp⟩
 ·cases hy
end Go.Rb
