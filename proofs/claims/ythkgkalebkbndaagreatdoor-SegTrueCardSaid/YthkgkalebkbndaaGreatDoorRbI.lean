/- Rb: contracts by hand: rows of cells that a walk turns; slices.Compact. Own work. -/
import Derived.Test.YthkgkalebkbndaaGreatDoorRbG
import Derived.Laws.Cells
import Derived.Laws.Append
import Derived.Test.YthkgkalebkbndaaGreatDoorRbB
import Derived.Shelf.SlSortCmp.WholeK
import Derived.Test.YthkgkalebkbndaaGreatDoorRbC
import Derived.Test.YthkgkalebkbndaaGreatDoorRbE
import Derived.Deep.OwnRows
import Derived.Below
import Derived.Laws.BytesArg
import Derived.MapKept
set_option autoImplicit false
set_option linter.unusedVariables false
set_option linter.unusedSimpArgs false
open Array renaming append_assoc->Da,getElem?_modify->Cn,getElem?_push->DG,length_toList->AQ
open Bool renaming and_eq_true->Af,eq_false_iff->Gh
open Go renaming run_convert_bytes_arg->Gu,run_underlying->Ay,size_zeroCells->Jx
open Go.Builtin renaming append_->B8,clear_->Cj,firstCells->AU,zeroCells->Cd
open Go.Ending renaming returned->C3
open Go.Instr renaming checkKey->EQ,findNow->Fe,mapUpdate->Eh
open Go.IntKind renaming i64->Aa,u8->Ah
open Go.Lib renaming bitLen->BQ,compareBytes->Ce
open Go.Question renaming forced->FN
open Go.Result renaming andThen_ok->AD
open Go.RowKit renaming Below->Fh
open Go.RowKit.Below renaming refl->BA
open Go.Sem renaming run->Dy
open Go.Value renaming cells->Ch,int->C1
open Go.Value.slice renaming injEq->AP
open Go.World renaming cell?->By,cell?_setCell_other->BP,frozen?->GD,frozen?_setCell->Cl
open List renaming all_cons->BD,append_nil->A3,getD->BG,getD_eq_getElem?_getD->AJ,getElem!_eq_getElem?_getD->Ed,getElem?_drop->Ba,getElem?_eq_getElem->Ax,getElem?_eq_none->BR,getElem?_take->AO,getElem_of_mem->B2,map_map->Cv,mem_append->Ao,mem_append_right->Au,mem_cons_of_mem->Ar,mem_cons_self->C9,mem_range->Bz,range->AA
open List.cons renaming injEq->AB
open Nat renaming add_mul->Bi,beq->AF,eq_of_beq_eq_true->AI,eq_zero_or_pos->Cm,le_mul_of_pos_right->Cc,le_of_not_lt->G1,le_refl->Av,le_trans->Bo,lt_of_lt_of_le->AV,lt_or_ge->AY,mul_le_mul_right->An,mul_one->D5,zero_add->FY,zero_le->BF
open Option.some renaming inj->Ai,injEq->Ad
open Prod.mk renaming injEq->Ak
namespace Go.Rb
variable {A:Amb} {P:Program} {C:Ctx} {w w' W:World} {Z Z':Nat→Prop} {h h':Array Obj}
structure Away (p:Prop):Prop where
 out:p
structure CW (w:World) (b S sz n:Nat) (X:Nat→List Value) (W:World):Prop where
 os:W.os=w.os
 out:W.output=w.output
 tape:W.tape=w.tape
 size:W.heap.size=w.heap.size
 oth:∀k,k≠b→W.heap[k]?=w.heap[k]?
 blk:∃c,Blk W.heap b c∧c.size=S∧∀i,i<n→seg c.toList (i*sz) sz=X i
 nm:NoMk w.heap b→NoMk W.heap b
variable {b S sz n:Nat} {X Y:Nat→List Value}
theorem CW.congr(hc:CW w b S sz n X W)(h:∀i,i<n→X i=Y i):CW w b S sz n Y W:=by
 obtain⟨c,h1,h2,h3⟩:=hc.blk;exact { hc with blk:=⟨c,h1,h2,fun i hi=>(h3 i hi).trans (h i hi)⟩ }
theorem CW.drew(hc:CW w b S sz n X W):CW w b S sz n X W.drew:={ hc with }
theorem a7h{i n sz:Nat}(h:i<n):i*sz+sz≤n*sz:=by
 have:=An sz (show i+1≤n from h);rwa [Bi,Nat.one_mul] at this
theorem CW.load(hc:CW w b S sz n X W)(hS:n*sz≤S){i:Nat}(hi:i<n):Dy P (loadCellsFrom ⟨b,i*sz,none⟩ 0 sz #[]) W=.ok (X i).toArray W:=by
 obtain⟨c,⟨el,fr,h1,_⟩,h2,h3⟩:=hc.blk;have hm:=a7h (sz:=sz) hi;have hl:(X i).length=sz:=by rw[←h3 i hi];exact a4g (by simp;omega)
 have:=run_loadCells_list (P:=P) (w:=W) ⟨b,i*sz,none⟩ (X i) fun j v hj=>by
  have hjl:j<sz:=by
   rcases AY j (X i).length with h|h
   ·omega
   ·rw[BR h] at hj;cases hj
  rw[a7x rfl];rw[←h3 i hi] at hj;unfold seg at hj;rw[AO,if_pos hjl,Ba] at hj;simp only[By,h1];simpa using hj
 rw[hl] at this;simpa[loadCells] using this
theorem CW.store(hc:CW w b S sz n X W)(hS:n*sz≤S){i:Nat}(hi:i<n){ys:List Value}(hl:ys.length=sz)(h1:∀v,v∈ys→v.oneCell'=true) :
  ∃W',Dy P (storeCells ⟨b,i*sz,none⟩ ys 0) W=.ok () W'∧CW w b S sz n (fun j=>if j=i then ys else X j) W':=by
 obtain⟨c,hb,h2,h3⟩:=hc.blk;have hm:=a7h (sz:=sz) hi;obtain⟨W',r1,r2,r3,r4,r5,r6⟩:=a2x (P:=P) ys 0 W ⟨b,i*sz,none⟩ c rfl hb (by simp only;omega) h1;obtain⟨c',k1,k2,k3,k4⟩:=r6.blk hb;refine⟨W',r1,r2.trans hc.os,r3.trans hc.out,r4.trans hc.tape,(r6.oth2).2.trans hc.size,fun k hk=>((r6.oth2).1 k hk).trans (hc.oth k hk),⟨c',k1,by omega,fun j hj=>?_⟩,fun hm=>r6.nm (hc.nm hm)⟩;have hmj:=a7h (sz:=sz) hj;rw[k2];by_cases hji:j=i
 ·subst hji;rw[if_pos rfl];exact a6j hl (by simp;omega)
 ·rw[if_neg hji,←h3 j hj];refine a3n (by simp only[AQ];omega) ?_;rcases AY j i with h|h
  ·exact .inl (by have:=a7h (sz:=sz) h;simpa using this)
  ·have:=a7h (sz:=sz) (show i<j by omega);exact .inr (by simp only;omega)
theorem CW.cell(hc:CW w b S sz n X W)(hS:n*sz≤S){i j:Nat}(hi:i<n){v:Value}(hj:(X i)[j]?=some v):W.cell? ⟨b,i*sz+j,none⟩=some v:=by
 obtain⟨c,⟨el,fr,h1,_⟩,h2,h3⟩:=hc.blk;have hm:=a7h (sz:=sz) hi;have hl:(X i).length=sz:=by rw[←h3 i hi];exact a4g (by simp;omega)
 have hjl:j<sz:=by
  rcases AY j (X i).length with h|h
  ·omega
  ·rw[BR h] at hj;cases hj
 rw[←h3 i hi] at hj;unfold seg at hj;rw[AO,if_pos hjl,Ba] at hj;simp only[By,h1];simpa using hj
theorem CW.frozen(hc:CW w b S sz n X W)(hS:n*sz≤S){i j:Nat}(hi:i<n)(hj:j<sz):W.frozen? ⟨b,i*sz+j,none⟩=false:=by
 obtain⟨c,⟨el,fr,h1,_,h2⟩,h3,_⟩:=hc.blk;have hm:=a7h (sz:=sz) hi;have:=h2 (i*sz+j) (by omega);simp only[GD,h1];cases fr;simp at this ⊢;intro h;exact G1 fun h'=>by have:=this h;omega
theorem a9r{ad:Addr}{v:Value}{ys:List Value}{i:Nat}{u:Value}(h1:v.oneCell'=true)(hc:W.cell? (ad.add i)=some u)(hf:W.frozen? (ad.add i)=false) :
  Dy P (storeCells ad (v::ys) i) W=Dy P (storeCells ad ys (i+1)) (W.setCell (ad.add i) v):=by
 conv=>lhs;unfold storeCells
 simp only[Sem.run_bind,run_store P W (ad.add i) v .plain h1,hc,hf,Bool.false_eq_true,if_false,AD]
theorem CW.set3(P:Program)(hc:CW w b S 3 n X W)(hS:n*3≤S){i:Nat}(hi:i<n){v0 v1 v2:Value}(h0:v0.oneCell'=true)(h1:v1.oneCell'=true)(h2:v2.oneCell'=true) :
  CW w b S 3 n (fun j=>if j=i then[v0,v1,v2] else X j) (((W.setCell ⟨b,i*3,none⟩ v0).setCell ⟨b,i*3+1,none⟩ v1).setCell ⟨b,i*3+2,none⟩ v2):=by
 obtain⟨W',r1,r2⟩:=hc.store (P:=P) hS hi (ys:=[v0,v1,v2]) rfl (by simp[h0,h1,h2]);have hm:=a7h (sz:=3) hi;have hl:(X i).length=3:=by
  obtain⟨c,_,q2,q3⟩:=hc.blk;rw[←q3 i hi];exact a4g (by simp;omega)
 obtain⟨u0,u1,u2,hu⟩:∃u0 u1 u2,X i=[u0,u1,u2]:=by
  match X i,hl with
  |[a,b,c],_=>exact⟨a,b,c,rfl⟩
 have c0:=hc.cell hS hi (j:=0) (by rw[hu];rfl);have c1:=hc.cell hS hi (j:=1) (by rw[hu];rfl);have c2:=hc.cell hS hi (j:=2) (by rw[hu];rfl);have f0:=hc.frozen hS hi (j:=0) (by omega);have f1:=hc.frozen hS hi (j:=1) (by omega);have f2:=hc.frozen hS hi (j:=2) (by omega);have e0:(⟨b,i*3,none⟩:Addr).add 0=⟨b,i*3,none⟩:=by rw[a7x rfl];rfl
 have e1:(⟨b,i*3,none⟩:Addr).add 1=⟨b,i*3+1,none⟩:=by rw[a7x rfl]
 have e2:(⟨b,i*3,none⟩:Addr).add 2=⟨b,i*3+2,none⟩:=by rw[a7x rfl]
 have key:Dy P (storeCells ⟨b,i*3,none⟩ [v0,v1,v2] 0) W=.ok () (((W.setCell ⟨b,i*3,none⟩ v0).setCell ⟨b,i*3+1,none⟩ v1).setCell ⟨b,i*3+2,none⟩ v2):=by
  rw[a9r (u:=u0) h0 (by rw[e0];exact c0) (by rw[e0];exact f0),e0];rw[a9r (u:=u1) h1 (by rw[show(0+1)=1 from rfl,e1];rw[BP _ (h:=show(⟨b,i*3,none⟩:Addr)≠⟨b,i*3+1,none⟩ by simp)];exact c1) (by rw[show(0+1)=1 from rfl,e1];rw[Cl];exact f1),show(0+1)=1 from rfl,e1];rw[a9r (u:=u2) h2 (by rw[show(1+1)=2 from rfl,e2];rw[BP _ (h:=show(⟨b,i*3+1,none⟩:Addr)≠⟨b,i*3+2,none⟩ by simp),BP _ (h:=show(⟨b,i*3,none⟩:Addr)≠⟨b,i*3+2,none⟩ by simp)];exact c2) (by rw[show(1+1)=2 from rfl,e2];rw[Cl,Cl];exact f2),show(1+1)=2 from rfl,e2];rfl
 rw[key] at r1;cases r1;exact r2
theorem CW.clear(hc:CW w b S sz n X W){T ty el:TypeId}{z:Value}(ht:P.underlying T=some (.slice el))(hz:∀w,(zeroValue el).run P w=.ok z w)(hzs:z.cells.size=sz)(hz1:∀v,v∈z.cells.toList→v.oneCell'=true){k cap:Nat}(hk:k<n)(hS:n*sz≤S) :
  ∃W',(Cj #[T] ty #[.slice (some ⟨b,k*sz,none⟩) (n - k) cap]).run P W=.ok (.tuple #[]) W'∧CW w b S sz k X W':=by
 obtain⟨c,hb,h2,h3⟩:=hc.blk;have e:k*sz+(n - k)*sz=n*sz:=by rw[←Bi];congr 1;omega
 obtain⟨W',news,r1,r2,r3,r4,r5,r6⟩:=e0u (P:=P) (w:=W) (T:=T) (ty:=ty) (cap:=cap) (n:=n - k) (off:=k*sz) ht hz hzs hz1 hb (by omega) (by omega);obtain⟨c',k1,k2,k3,k4⟩:=r6.blk hb;refine⟨W',r1,r2.trans hc.os,r3.trans hc.out,r4.trans hc.tape,(r6.oth2).2.trans hc.size,fun k hk=>((r6.oth2).1 k hk).trans (hc.oth k hk),⟨c',k1,by omega,fun j hj=>?_⟩,fun hm=>r6.nm (hc.nm hm)⟩;have hmj:=a7h (sz:=sz) hj;rw[k2,←h3 j (by omega)];exact a3n (by simp only[AQ];omega) (.inl (by simpa using hmj))
def c0s(eqB:Nat→Nat→Bool)(j:Nat):Bool:=decide (j=0)||!eqB j (j - 1)
def a3c(eqB:Nat→Nat→Bool)(m:Nat):List Nat:=(AA m).filter (c0s eqB)
variable {eqB:Nat→Nat→Bool} {E:Nat→List Value}
theorem b8s(m:Nat):a3c eqB (m+1)=a3c eqB m++if c0s eqB m=true then[m] else[]:=by
 unfold a3c;rw[List.range_succ,List.filter_append];congr 1;by_cases h:c0s eqB m=true <;> simp[h]
theorem d8b{m:Nat}(h:∀j,j<m→c0s eqB j=true):a3c eqB m=AA m:=by
 unfold a3c;rw[List.filter_eq_self.2 fun j hj=>h j (Bz.1 hj)]
theorem f5m(m:Nat):(a3c eqB m).length≤m:=by
 have:=List.length_filter_le (c0s eqB) (AA m);simpa[a3c] using this
theorem f9i{m j:Nat}(h:j∈a3c eqB m):j<m:=by
 unfold a3c at h;exact Bz.1 (List.mem_filter.1 h).1
def XK(E:Nat→List Value)(L:List Nat)(j:Nat):List Value:=if j<L.length then E (L.getD j 0) else E j
theorem f2g{k j:Nat}:XK E (AA k) j=E j:=by
 unfold XK;split
 ·rename_i h;congr 1;have:j<k:=by simpa using h
  simp[BG,this]
 ·rfl
theorem g5h{L:List Nat}{m j:Nat}:(if j=L.length then E m else XK E L j)=XK E (L++[m]) j:=by
 unfold XK;by_cases h:j=L.length
 ·subst h;simp[BG]
 ·rw[if_neg h];by_cases h2:j<L.length
  ·rw[if_pos h2,if_pos (by simp;omega)];congr 1;simp only[BG,List.getElem?_append,h2,if_true]
  ·rw[if_neg h2,if_neg (by simp;omega)]
theorem f6a{L:List Nat}{j:Nat}(h:L.length≤j):XK E L j=E j:=by
 unfold XK;rw[if_neg (by omega)]
end Go.Rb

namespace Go.Rb
variable {A:Amb} {P:Program} {C:Ctx} {w w' W:World} {Z Z':Nat→Prop} {h h':Array Obj}
def eqAt(te:Ty)(l:List te.den)(i j:Nat):Bool :=
 match l[i]?,l[j]? with
 |some x,some y=>(te.beq x y).getD false
 |_,_=>false
def e5b(te:Ty)(l:List te.den):List te.den:=(a3c (eqAt te l) l.length).filterMap fun i=>l[i]?
def g7m(te:Ty)(x:List te.den×Unit):Option ((List te.den×Unit)×Unit):=some ((e5b te x.1,()),())
theorem e1a{α:Type}{l:List α}:∀{L:List Nat},(∀i,i∈L→i<l.length)→(L.filterMap fun i=>l[i]?).length=L.length∧∀q (hq:q<L.length) y,(L.filterMap fun i=>l[i]?)[q]?=some y→l[L.getD q 0]?=some y:=by
 intro L
 induction L with
 |nil=>intro _;exact⟨rfl,fun q hq=>absurd hq (Nat.not_lt_zero _)⟩
 |cons a L ih =>
  intro hL;obtain⟨i1,i2⟩:=ih fun i hi=>hL i (Ar _ hi)
  have ha:l[a]?=some (l[a]'(hL a (C9 ..))):=Ax _;rw[List.filterMap_cons_some (h:=ha)];refine⟨by simp[i1],fun q hq y hy=>?_⟩;cases q with
  |zero =>
   simp at hy;rw[List.getD_cons_zero,ha,hy]
  |succ q =>
   rw[List.getD_cons_succ];exact i2 q (by simpa using hq) y (by simpa using hy)
theorem d9s{f:FuncId}{T EL e:Nat}{t0:Ty}(htab:a3q P C)(hT:C.ty T=some (.sl .imm e (.st t0)))(hEL:C.ty EL=some (.st t0))(hu:P.underlying T=some (.slice EL))(h3:(Ty.st t0).size=3){z:List Value}(hz:zeroCells (.st t0)=some z)
  (hok:(Ty.st t0).eqOK=true) (hn:t0.nest<9000) (hbe:∀x y:(Ty.st t0).den,(Ty.st t0).beq x y=some (((Ty.st t0).beq x y).getD false))
  (hnil:∀(w:World),Calls P f #[.slice none 0 0] w fun e w'=>e=.returned (.slice none 0 0)∧w'=w)
  (hraw:∀(w:World) (b S n cap:Nat) (hn:n≤cap) (hroom:n≤140737488355328) (hS:n*3≤S) (E:Nat→List Value) (eqB:Nat→Nat→Bool)
   (hE:∀i,i<n→(E i).length=3∧∀v,v∈E i→v.oneCell'=true)
   (heq:∀i j,i<n→j<n→∀W,(binOp .eql EL (.agg (E i).toArray) (.agg (E j).toArray)).run P W=.ok (.bool (eqB i j)) W)
   (hne:∀i j,i<n→j<n→∀W,(binOp .neq EL (.agg (E i).toArray) (.agg (E j).toArray)).run P W=.ok (.bool (!eqB i j)) W)
   (hgd:∀(op:BinOp) (x y:Operand) i j,∀W,(eqGuard op EL x y (.agg (E i).toArray) (.agg (E j).toArray)).run P W=.ok () W)
   (hcl:∀(k:Nat) X W,k<n→CW w b S 3 n X W→∃W',(Cj #[T] 0 #[.slice (some ⟨b,k*3,none⟩) (n - k) (cap - k)]).run P W=.ok (.tuple #[]) W'∧CW w b S 3 k X W')
   (hcw:CW w b S 3 n E w),Calls P f #[.slice (some ⟨b,0,none⟩) n cap] w fun e w'=>e=.returned (.slice (some ⟨b,0,none⟩) (a3c eqB n).length cap)∧CW w b S 3 (a3c eqB n).length (XK E (a3c eqB n)) w') :
  a7s A P C f ⟨[.val (.sl .own e (.st t0))],[.val (.sl .own e (.st t0))]⟩ (g7m (.st t0)):=by
 intro x y hy Z w vs fp hglob hzb hargs hnd hdis;cases hy;obtain⟨l,u⟩:=x;obtain⟨v,vs',cs,f1,f2,hvs,hvc,hrep,⟨rfl,rfl⟩,rfl⟩:=hargs;obtain rfl:=c3h hvs;obtain⟨el,ti,q1,q2,q3,q4,q5,q6,q7,q8,q9⟩:=b2h htab hT;rw[hu] at q1;cases q1;obtain⟨ti',dd,p1,p2,p3,p4,p5⟩:=(htab _ _ hEL).ex;rw[q3] at p1;obtain rfl:=Ai p1;obtain⟨zv,p6,p7⟩:=p5 z hz;have hzs:zv.cells.size=(Ty.st t0).size:=by
  have h1:=a7t p7;have h2:=a1p (a6b (A:=A) (P:=P) (Z:=Z) (h:=w.heap) hz);rw[←AQ,h1,h2]
 have hz1:∀v,v∈zv.cells.toList→v.oneCell'=true:=fun v hv=>by
  rw[a7t p7] at hv;exact a6o (a6b (A:=A) (P:=P) (Z:=Z) (h:=w.heap) hz) v hv
 have hzv:∀w:World,(zeroValue EL).run P w=.ok zv w:=fun w=>by
  simp[zeroValue,typeInfo,q3,p6]
 simp only[A3] at hnd hdis ⊢;dsimp only at hrep ⊢;rcases f0i q6 hrep with⟨rfl,h2,rfl⟩|⟨b,n,cap,c,rfl,hnl,hcap,hb,hroom,hblk,hc,rfl,hel⟩
 ·subst h2;obtain rfl:=a0w rfl hvc;refine(hnil w).mono fun en w' ⟨he,hw⟩=>?_
  subst hw;refine⟨_,Z,[],[],he,c1i b6h hrep,rfl,?_⟩;exact⟨fun b=>id,Av _,fun _ _ _=>rfl,fun b hb=>.inl hb,fun b hb=>.inl hb,rfl,rfl,rfl,hzb,by simp,by simp,by simp⟩
 ·obtain rfl:=a0w rfl hvc;rw[h3] at hc hel hzs;obtain⟨fs,hfs⟩:∃fs,P.underlying EL=some (.struct fs):=by
   cases dd <;> first|exact⟨_,p2⟩|exact p4.elim
  obtain⟨g1,g2,g3⟩:=(htab _ _ hEL).eq hok fs hfs
  let E:Nat→List Value:=fun i=>seg c.toList (i*3) 3
  have hS:n*3≤cap*3:=An _ hcap;have hEl:∀i,i<n→(E i).length=3:=fun i hi=>a4g (by have:=a7h (sz:=3) hi;simp;omega)
  have hE1:∀i,i<n→∀v,v∈E i→v.oneCell'=true:=fun i hi=>a6o (hel i (by omega))
  have hvca:∀i,VC (.st t0) (.agg (E i).toArray) (E i):=fun i=>by
   unfold VC;rw[if_pos (show(Ty.st t0).agg=true from rfl)]
  have heq0:∀i j,i<n→j<n→∀W,(Op.equalIn 10000 EL (.agg (E i).toArray) (.agg (E j).toArray)).run P W=.ok (eqAt (.st t0) l i j) W:=fun i j hi hj W=>by
   have e1:l[i]?=some (l[i]'(by omega)):=Ax _;have e2:l[j]?=some (l[j]'(by omega)):=Ax _;have:=(f0v (A:=A) (Z:=Z) (h:=w.heap) htab (.st t0)).1 EL 10000 W _ _ _ _ _ _ _ _ _ hEL (by simp only[Ty.nest];omega) hok (hvca i) (hvca j) (hel i (by omega)) (hel j (by omega)) (hbe _ _);rw[this];unfold eqAt;rw[e1,e2]
  have hcw:CW w b (cap*3) 3 n E w:=⟨rfl,rfl,rfl,rfl,fun _ _=>rfl,⟨c,hblk.blk,hc,fun _ _=>rfl⟩,id⟩
  refine(hraw w b (cap*3) n cap hcap (by unfold room at hroom;omega) hS E (eqAt (.st t0) l) (fun i hi=>⟨hEl i hi,hE1 i hi⟩) (fun i j hi hj W=>by rw[run_eql_struct,heq0 i j hi hj,AD]) (fun i j hi hj W=>by rw[run_neq_struct,heq0 i j hi hj,AD])
   (fun op x y i j W=>run_eqGuard_agg _ _ _ _ _ _ _ g2) (fun k X W hk hX=>hX.clear hu hzv hzs hz1 hk hS) hcw).mono fun en w' ⟨he,hw⟩=>?_
  have hKmem:∀i,i∈a3c (eqAt (.st t0) l) n→i<l.length:=fun i hi=>by have:=f9i hi;omega
  obtain⟨hL1,hL2⟩:=e1a hKmem;have hcomp:e5b (.st t0) l=(a3c (eqAt (.st t0) l) n).filterMap fun i=>l[i]?:=by unfold e5b;rw[hnl]
  have hKn:=f5m (eqB:=eqAt (.st t0) l) n;obtain⟨c',m1,m2,m3⟩:=hw.blk;have hdisb:=hdis b (by simp);refine⟨_,Z,[b],[],he,c1i b6h (f2c (by rw[hcomp,hL1]) (by omega) (Bo (An _ (by omega)) hb) (by omega) ⟨m1,fun he=>hw.nm (hblk.nm he)⟩ (by rw[m2,h3]) fun q hq=>?_),rfl,⟨fun b=>id,Nat.le_of_eq hw.size.symm,fun k hk hkb=>hw.oth k (by simpa using hkb),fun b hb=>.inl hb,fun b hb=>.inl hb,hw.os,hw.out,hw.tape,fun b hb=>by rw[hw.size];exact hzb b hb,fun b hb=>by rw[hw.size];exact b9z hrep b hb,hdis,by simp⟩⟩;have hq':q<(a3c (eqAt (.st t0) l) n).length:=by rw[←hL1,←hcomp];exact hq
  have hy:=hL2 q hq' _ (by rw[←hcomp];exact Ax hq);rw[h3,m3 q hq'];unfold XK;rw[if_pos hq'];have hlt:(a3c (eqAt (.st t0) l) n).getD q 0<l.length:=by
   rcases AY ((a3c (eqAt (.st t0) l) n).getD q 0) l.length with h|h
   ·exact h
   ·rw[BR h] at hy;cases hy
  rw[Ax hlt] at hy;rw[←Ai hy];exact a0g (hel _ hlt) (fun b=>id) fun k hk=>hk.elim (fun hk=>hw.oth k fun hkb=>hdisb (hkb ▸ hk)) (by simp)
end Go.Rb

namespace Go.Rb
variable {A:Amb} {P:Program} {C:Ctx} {w w':World} {Z Z':Nat→Prop} {h h':Array Obj}
def memW(t:Nat):List Nat→Bool
 |[]=>false
 |a::l=>match AF t a with
  |true=>true
  |false=>memW t l
theorem f0m{t:Nat}:∀{l:List Nat},memW t l=true→t∈l
 |[],h=>by simp[memW] at h
 |a::l,h=>by
  unfold memW at h;split at h
  ·rename_i hb;rw[AI hb];exact C9 ..
  ·exact Ar _ (f0m h)
def isUs(ws:List Nat)(e:UV)(g:Nat):Option Bool:=match e with
 |.nil=>some false
 |.sent g'=>some (AF g' g)
 |.node t (.pair (.str _) (.pair (.sent g') .unit))=>match memW t ws with
  |true=>some (AF g' g)
  |false=>none
 |_=>none
def isFs(ws:List Nat)(x:UV×UV×Unit):Option ((Bool×Unit)×Unit):=match x.2.1 with
 |.sent g=>(isUs ws x.1 g).bind fun b=>some ((b,()),())
 |_=>none
theorem f9m{f:FuncId}{ws:List Nat}{et:Nat}(hA:∀g T a,A.sent g=some (T,a)→T=et)
  (hnil:∀(b:Addr) (w:World),Calls P f #[.nilIface,.iface et (.pointer (some b))] w fun e w'=>e=.returned (.bool false)∧w'=w)
  (hsame:∀(a:Addr) (w:World),Calls P f #[.iface et (.pointer (some a)),.iface et (.pointer (some a))] w fun e w'=>e=.returned (.bool true)∧w'=w)
  (hother:∀(a b:Addr) (ca cb:Array Value) (ta tb:TypeId) (w:World),a≠b→w.heap[a.block]?=some (.cells ca ta (0,0))→w.heap[b.block]?=some (.cells cb tb (0,0)) →
   Calls P f #[.iface et (.pointer (some a)),.iface et (.pointer (some b))] w fun e w'=>e=.returned (.bool false)∧w'=w)
  (hwsame:∀wt,wt∈ws→∀(s:ByteArray) (a:Addr) (w:World),(∃ca ta,w.heap[a.block]?=some (.cells ca ta (0,0)))→Calls P f #[.iface wt (.agg #[.string s,.iface et (.pointer (some a))]),.iface et (.pointer (some a))] w fun e w'=>e=.returned (.bool true)∧Fh w.heap.size w w')
  (hwother:∀wt,wt∈ws→∀(s:ByteArray) (a b:Addr) (ca cb:Array Value) (ta tb:TypeId) (w:World),a≠b→w.heap[a.block]?=some (.cells ca ta (0,0))→w.heap[b.block]?=some (.cells cb tb (0,0)) →
   Calls P f #[.iface wt (.agg #[.string s,.iface et (.pointer (some a))]),.iface et (.pointer (some b))] w fun e w'=>e=.returned (.bool false)∧Fh w.heap.size w w') :
  a7s A P C f ⟨[.val .err,.val .err],[.val .bool]⟩ (isFs ws):=by
 intro x y hy Z w vs fp hglob hzb hargs hnd hdis;obtain⟨e,t,u⟩:=x;obtain⟨v1,vs',cs,f1,f2,hvs,hvc,hrep,⟨v2,vs2,cs2,f3,f4,hvs2,hvc2,hrep2,⟨rfl,rfl⟩,rfl⟩,rfl⟩:=hargs;obtain⟨rfl,hc1,v1',rfl,hna,htop⟩:=hrep;obtain⟨rfl,hc2,v2',rfl,hna2,htop2⟩:=hrep2;obtain rfl:=a0w rfl hvc;obtain rfl:=a0w rfl hvc2;subst hvs2;obtain rfl:=c2t hvs;dsimp only at hc1 hc2;have hfin:∀(b:Bool) {w':World} {en:Ending},en=.returned (.bool b)→Fh w.heap.size w w'→∃v Z' fr fi,en=.returned v∧d0h A P Z' w'.heap [.val .bool] v (b,()) fr∧b0q A P Z' w'.heap [.val .err,.val .err] [v1,v2] () fi∧Step Z w ([]++([]++[])) Z' w' (fr++fi) :=
  fun b w' en he hb=>⟨_,Z,[],[],he,c1i (by unfold VC;simp[Ty.agg]) ⟨rfl,rfl⟩,rfl,⟨fun b=>id,hb.size,fun k hk _=>hb.block k hk,fun b hb=>.inl hb,by simp,hb.os,hb.output,hb.tape,fun b hz=>AV (hzb b hz) hb.size,by simp,by simp,by simp⟩⟩
 unfold isFs at hy;dsimp only at hy;split at hy
 ·rename_i g;obtain⟨T,b,hb1,hb2⟩:=hc2;have hT:=hA g T b hb2;subst hT;simp only[AB,and_true] at hb1;subst hb1;obtain⟨_,_,cb,tb,hbb⟩:=hglob.amb.at_ g T b hb2;simp only[Option.bind_eq_some_iff,Ad] at hy;obtain⟨r,hr,rfl⟩:=hy;unfold isUs at hr;split at hr
  ·cases hr;simp only[RepC,AB,and_true] at hc1;subst hc1;exact(hnil b w).mono fun en w' ⟨he,hw⟩=>hfin false he (hw ▸ BA _ _)
  ·rename_i g';cases hr;obtain⟨T',a,ha1,ha2⟩:=hc1;have hT':=hA g' T' a ha2;subst hT';simp only[AB,and_true] at ha1;subst ha1;obtain⟨_,_,ca,ta,haa⟩:=hglob.amb.at_ g' T' a ha2;by_cases hgg:g'=g
   ·subst hgg;rw[ha2] at hb2;simp only[Ad,Ak,true_and] at hb2;subst hb2;rw[show AF g' g'=true by simp];exact(hsame a w).mono fun en w' ⟨he,hw⟩=>hfin true he (hw ▸ BA _ _)
   ·have hne:a≠b:=fun h=>hgg (hglob.amb.inj g' g _ _ a ha2 (h ▸ hb2))
    rw[show AF g' g=false by rw[Gh];intro h;exact hgg (AI h)];exact(hother a b ca cb ta tb w hne haa hbb).mono fun en w' ⟨he,hw⟩=>hfin false he (hw ▸ BA _ _)
  ·rename_i t' l g';split at hr
   ·rename_i hwt;have hmem:=f0m hwt;cases hr;obtain⟨x,hx1,c1,c2,hx2,⟨s,rfl,_⟩,c3,c4,rfl,⟨T',a,rfl,ha2⟩,hx3⟩:=hc1;simp only[RepC] at hx3;subst hx3;have hT':=hA g' T' a ha2;subst hT';simp only[AB,and_true] at hx1;subst hx1;have hxa:x=.agg #[.string s,.iface T' (.pointer (some a))]:=by
     cases x with
     |agg ar =>
      simp only[Ch] at hx2;cases ar;simp at hx2;rw[hx2]
     |_=>simp[Ch] at hx2
    subst hxa;obtain⟨_,_,ca,ta,haa⟩:=hglob.amb.at_ g' T' a ha2;by_cases hgg:g'=g
    ·subst hgg;rw[ha2] at hb2;simp only[Ad,Ak,true_and] at hb2;subst hb2;rw[show AF g' g'=true by simp];exact(hwsame _ hmem s a w ⟨ca,ta,haa⟩).mono fun en w' ⟨he,hw⟩=>hfin true he hw
    ·have hne:a≠b:=fun h=>hgg (hglob.amb.inj g' g _ _ a ha2 (h ▸ hb2))
     rw[show AF g' g=false by rw[Gh];intro h;exact hgg (AI h)];exact(hwother _ hmem s a b ca cb ta tb w hne haa hbb).mono fun en w' ⟨he,hw⟩=>hfin false he hw
   ·cases hr
  ·cases hr
 ·cases hy
def cmpI:List Int→List Int→Int
 |[],[]=>0
 |[],_::_=>-1
 |_::_,[]=>1
 |a::x,b::y=>if a<b then -1 else if b<a then 1 else cmpI x y
theorem e8q:∀x y:List UInt8,Ce x y=cmpI (x.map fun b=>(b.toNat:Int)) (y.map fun b=>(b.toNat:Int))
 |[],[]=>rfl
 |[],_::_=>rfl
 |_::_,[]=>rfl
 |a::x,b::y=>by
  simp only[Ce,cmpI,List.map_cons,e8q x y,UInt8.lt_iff_toNat_lt,Int.ofNat_lt]
theorem e8h:∀x y:List Int,-1≤cmpI x y∧cmpI x y≤1
 |[],[]=>by simp[cmpI]
 |[],_::_=>by simp[cmpI]
 |_::_,[]=>by simp[cmpI]
 |a::x,b::y=>by
  have:=e8h x y;unfold cmpI;split
  ·omega
  ·split <;> omega
def csF(x:List Int×List Int×Unit):Option ((Int×Unit)×Unit):=some ((cmpI x.1 x.2.1,()),())
theorem c4q{f:FuncId}(hc:∀(s t:ByteArray) (w:World),Calls P f #[.string s,.string t] w fun e w'=>e=.returned (.int .i64 (Ce s.data.toList t.data.toList))∧w'=w) :
  a7s A P C f ⟨[.val .str,.val .str],[.val (.int .i64)]⟩ csF:=by
 intro x y hy Z w vs fp hglob hzb hargs hnd hdis;cases hy;obtain⟨l,c,u⟩:=x;obtain⟨v1,vs',cs,f1,f2,hvs,hvc,hrep,⟨v2,vs2,cs2,f3,f4,hvs2,hvc2,hrep2,⟨rfl,rfl⟩,rfl⟩,rfl⟩:=hargs;obtain⟨rfl,s,rfl,hl,hsz⟩:=hrep;obtain⟨rfl,t,rfl,hl2,hsz2⟩:=hrep2;obtain rfl:=a0w rfl hvc;obtain rfl:=a0w rfl hvc2;subst hvs2;obtain rfl:=c2t hvs;dsimp only at hl hl2 ⊢;subst hl hl2;refine(hc s t w).mono fun en w' ⟨he,hw⟩=>?_
 subst hw;rw[e8q] at he;refine⟨_,Z,[],[],he,c1i (g4o rfl (by simp)) ⟨rfl,rfl,?_⟩,rfl,f8e hzb⟩;have hb:=e8h (a1o s) (a1o t);have hm:(Aa).max=9223372036854775807:=rfl;have hn:(Aa).min=-9223372036854775808:=rfl;show(Aa).min≤cmpI (a1o s) (a1o t)∧cmpI (a1o s) (a1o t)≤(Aa).max;rw[hm,hn];omega
end Go.Rb

namespace Go.Rb
open Go.Sort Go.Proofs
variable {A:Amb} {P:Program} {C:Ctx} {w w' W:World} {Z Z':Nat→Prop} {h h':Array Obj}
def Ty.cells:Ty→Bool
 |.int _|.bool|.str|.unit=>true
 |.st t=>t.cells
 |.pair a b=>a.cells&&b.cells
 |_=>false
def Ty.enc:(t:Ty)→t.den→List Value
 |.int k,x=>[.int k x]
 |.bool,x=>[.bool x]
 |.str,x=>[.string (toBA x)]
 |.st t,x=>t.enc x
 |.pair a b,x=>a.enc x.1++b.enc x.2
 |_,_=>[]
theorem Ty.enc_length:∀{t:Ty} (x:t.den),t.cells=true→(t.enc x).length=t.size
 |.int _,_,_=>rfl
 |.bool,_,_=>rfl
 |.str,_,_=>rfl
 |.unit,_,_=>rfl
 |.st t,x,h=>Ty.enc_length (t:=t) x h
 |.pair a b,x,h=>by
  simp only[Ty.cells,Af] at h;simp[Ty.enc,Ty.size,Ty.enc_length x.1 h.1,Ty.enc_length x.2 h.2]
theorem Ty.enc_one:∀{t:Ty} (x:t.den) (v:Value),v∈t.enc x→v.oneCell'=true
 |.int _,_,v,h=>by simp[Ty.enc] at h;subst h;rfl
 |.bool,_,v,h=>by simp[Ty.enc] at h;subst h;rfl
 |.str,_,v,h=>by simp[Ty.enc] at h;subst h;rfl
 |.st t,x,v,h=>Ty.enc_one (t:=t) x v h
 |.pair a b,x,v,h=>by
  simp only[Ty.enc,Ao] at h;exact h.elim (Ty.enc_one x.1 v) (Ty.enc_one x.2 v)
theorem d2v:∀{t:Ty} {cs:List Value} {x:t.den} {fp:List Nat},t.cells=true→Rep A P t Z h cs x fp→cs=t.enc x
 |.int _,_,_,_,_,hr=>hr.2.1
 |.bool,_,_,_,_,hr=>hr.2
 |.str,_,_,_,_,hr=>by
  obtain⟨_,s,rfl,rfl,_⟩:=hr;simp[Ty.enc,f3z]
 |.unit,_,_,_,_,hr=>hr.1
 |.st t,_,_,_,hc,hr=>d2v (t:=t) hc hr
 |.pair a b,_,_,_,hc,hr=>by
  simp only[Ty.cells,Af] at hc;obtain⟨c1,c2,f1,f2,rfl,_,h1,h2⟩:=hr;simp only[Ty.enc,←d2v hc.1 h1,←d2v hc.2 h2]
theorem c2s:∀{t:Ty},t.cells=true→t.pure=true
 |.int _,_=>rfl
 |.bool,_=>rfl
 |.str,_=>rfl
 |.unit,_=>rfl
 |.st t,h=>c2s (t:=t) h
 |.pair a b,h=>by
  simp only[Ty.cells,Af] at h;simp[Ty.pure,c2s h.1,c2s h.2]
variable {α:Type} [Inhabited α]
theorem g3m{enc:α→List Value}{k:Nat}(hk:∀x,(enc x).length=k){d:Array α}{c:Array Value}(hc:d.size*k≤c.size){i:Nat}(hi:i<d.size) :
  seg (putCells id 0 (flatK enc k d) c).toList (i*k) k=enc d[i]!:=by
 have hm:=a7h (sz:=k) hi;apply List.ext_getElem?;intro j;unfold seg;rw[AO,Ba];by_cases hj:j<k
 ·rw[if_pos hj];have e1:(i*k+j) / k=i:=(blk_iff k i _ (by omega)).1 ⟨by omega,by omega⟩;have e2:(i*k+j) % k=j:=by rw[Nat.mod_eq_sub_div_mul,e1];omega
  have h1:(putCells id 0 (flatK enc k d) c).toList[i*k+j]?=some (enc d[i]!)[j]!:=by
   rw[Array.getElem?_toList];unfold putCells;rw[Array.getElem?_mapIdx,Array.getElem?_eq_getElem (show i*k+j<c.size by omega)];simp only[Option.map_some,size_flatK];rw[if_pos (by omega)];simp only[id,Nat.sub_zero];rw[get_flatK _ _ _ _ (by omega),e1,e2]
  rw[h1];have hl:=hk d[i]!;generalize enc d[i]! = l at hl ⊢;rw[Ax (by omega),Ed,Ax (by omega)];rfl
 ·rw[if_neg hj];exact(BR (by rw[hk];omega)).symm
structure SortW (w w':World) (blk:Nat) (c c':Array Value):Prop where
 os:w'.os=w.os
 out:w'.output=w.output
 tape:w'.tape=w.tape
 size:w.heap.size≤w'.heap.size
 oth:∀q,q<w.heap.size→q≠blk→w'.heap[q]?=w.heap[q]?
 blk:∀el fr,w.heap[blk]?=some (.cells c el fr)→w'.heap[blk]?=some (.cells c' el fr)
theorem h1x{enc:α→List Value}{k:Nat}{blk n:Nat}{d:Array α}{os:Array Obj}{c:Array Value}:SortW w (sortWorldK enc k w blk 0 n d os) blk c (putCells id 0 (flatK enc k d) c) where
 os:=rfl
 out:=rfl
 tape:=rfl
 size:=by simp[sortWorldK,putRowK]
 oth q hq hb:=by
  unfold sortWorldK putRowK;rw[heap_grow_old _ _ (by simpa using hq)];simp only[putRow,mapBlock,heap_ahead,Cn];rw[if_neg (Ne.symm hb)]
 blk el fr hb:=by
  have hlt:blk<w.heap.size:=by
   rcases AY blk w.heap.size with h|h
   ·exact h
   ·simp[Array.getElem?_eq_none h] at hb
  unfold sortWorldK putRowK;rw[heap_grow_old _ _ (by simpa using hlt)];simp only[putRow,mapBlock,heap_ahead,Cn];rw[if_pos trivial,hb];rfl
def g6d(t:Ty)[Inhabited t.den](cf:t.den→t.den→Int)(x:List t.den×Unit×Unit):Option (Unit×(List t.den×Unit)) :=
 some ((),((pdq (ltOf cf) x.1.toArray 0 x.1.length (BQ x.1.length) true true).toList,()))
theorem d1c{cf:α→α→Int}(hO:SWO (ltOf cf))(l:List α):(pdq (ltOf cf) l.toArray 0 l.length (BQ l.length) true true).toList.Perm l:=by
 have h1:=(pdq_sorts (ltOf cf) hO l.toArray 0 l.length (BQ l.length) true true (BF _) (by simp) (Or.inl rfl)).1;obtain⟨h2,_,h3⟩:=h1;have e1:(pdq (ltOf cf) l.toArray 0 l.length (BQ l.length) true true).size=l.length:=by rw[h2];simp
 rw[show(l.toArray.extract 0 l.length).toList=l by simp] at h3;generalize pdq (ltOf cf) l.toArray 0 l.length (BQ l.length) true true=d at h3 e1 ⊢;rw[show(d.extract 0 l.length).toList=d.toList by rw[←e1];simp] at h3;exact h3
theorem f3k{cf:α→α→Int}(hO:SWO (ltOf cf))(l:List α):(pdq (ltOf cf) l.toArray 0 l.length (BQ l.length) true true).toList.Pairwise fun x y=>ltOf cf y x=false:=by
 have hp:=(d1c hO l).length_eq;have h1:=(pdq_sorts (ltOf cf) hO l.toArray 0 l.length (BQ l.length) true true (BF _) (by simp) (Or.inl rfl)).2;generalize pdq (ltOf cf) l.toArray 0 l.length (BQ l.length) true true=d at h1 hp ⊢;have hs:d.size=l.length:=by simpa using hp
 rw[List.pairwise_iff_getElem];intro i j hi hj hij;have:=h1 i j (BF _) hij (by rw[←hs];simpa using hj);rw[getElem!_pos d i (by simpa using hi),getElem!_pos d j (by simpa using hj)] at this;simpa using this
theorem d6f{f g:FuncId}{e:Nat}{t0:Ty}[Inhabited (Ty.st t0).den](hcb:t0.cells=true){cf:(Ty.st t0).den→(Ty.st t0).den→Int}(hO:SWO (ltOf cf))
  (hnil:∀w,Calls P f #[.slice none 0 0,.func (.func g) #[] #[]] w fun e w'=>e=.returned (.tuple #[])∧w'=w)
  (hraw:∀(blk cap:Nat) (d:Array (Ty.st t0).den) (w:World),HoldsK (Ty.st t0).enc (Ty.st t0).size w blk 0 d→blk<w.heap.size→d.size<4611686018427387904 →
   Calls P f #[.slice (some ⟨blk,0,none⟩) d.size cap,.func (.func g) #[] #[]] w fun e w'=>e=.returned (.tuple #[])∧∃n os,w'=sortWorldK (Ty.st t0).enc (Ty.st t0).size w blk 0 n (pdq (ltOf cf) d 0 d.size (BQ d.size) true true) os) :
  a7s A P C f ⟨[.sio (.sl .own e (.st t0)),.val (.lf (.cfn g))],[]⟩ (g6d (.st t0) cf):=by
 intro x y hy Z w vs fp hglob hzb hargs hnd hdis;cases hy;obtain⟨l,u1,u2⟩:=x;have hcs:(Ty.st t0).cells=true:=hcb;obtain⟨v1,vs',cs,f1,f2,hvs,hvc,hrep,⟨v2,vs2,cs2,f3,f4,hvs2,hvc2,hrep2,⟨rfl,rfl⟩,rfl⟩,rfl⟩:=hargs;obtain⟨rfl,hl2⟩:=hrep2;have hl2':cs2=[.func (.func g) #[] #[]]:=hl2;subst hl2';obtain rfl:=a0w rfl hvc2;subst hvs2;obtain rfl:=c2t hvs;simp only[A3] at hnd hdis ⊢;dsimp only at hrep ⊢;rcases f0i (c2s hcs) hrep with⟨rfl,rfl,rfl⟩|⟨b,n,cap,c,rfl,hnl,hcap,hb,hroom,hblk,hc,rfl,hel⟩
 ·obtain rfl:=a0w rfl hvc;refine(hnil w).mono fun en w' ⟨he,hw⟩=>?_
  subst hw;have e0:(pdq (ltOf cf) (#[]:Array (Ty.st t0).den) 0 0 (BQ 0) true true).toList=[]:=List.perm_nil.1 (d1c hO []);refine⟨_,Z,[],[],he,⟨[],⟨rfl,rfl⟩,by simp⟩,⟨_,_,[],[],rfl,b6h,?_,rfl,rfl⟩,?_⟩
  ·show Rep A P (.sl .own e (.st t0)) Z w'.heap _ ((pdq (ltOf cf) (#[]:Array (Ty.st t0).den) 0 0 (BQ 0) true true).toList) [];rw[e0];exact hrep
  ·exact⟨fun b=>id,Av _,fun _ _ _=>rfl,fun b hb=>.inl hb,fun b hb=>.inl hb,rfl,rfl,rfl,hzb,by simp,by simp,by simp⟩
 ·obtain rfl:=a0w rfl hvc;have hdisb:=hdis b (by simp);have hlt:=hblk.lt;have hr:room=140737488355328:=rfl;obtain⟨el,fr,hheap,hfle,hfr⟩:=hblk.blk;have hn':n=l.toArray.size:=by simpa using hnl
  have hsz:l.toArray.size*(Ty.st t0).size≤c.size:=by rw[hc,←hn'];exact An _ hcap
  have hH:HoldsK (Ty.st t0).enc (Ty.st t0).size w b 0 l.toArray:=by
   intro j hj;rw[size_flatK] at hj;have hsp:0<(Ty.st t0).size:=by
    rcases Cm (Ty.st t0).size with h0|h0
    ·rw[h0] at hj;simp at hj
    ·exact h0
   have hq:j / (Ty.st t0).size<l.length:=by
    have:=(Nat.div_lt_iff_lt_mul hsp).2 hj;simpa using this
   have e1:=d2v hcs (hel _ hq);have hmod:=Nat.mod_lt j hsp;have hdm:=Nat.div_add_mod j (Ty.st t0).size;rw[Nat.mul_comm] at hdm;have e2:c[j]?=((Ty.st t0).enc l[j / (Ty.st t0).size])[j % (Ty.st t0).size]?:=by
    rw[←e1];unfold seg;rw[AO,if_pos hmod,Ba,hdm];simp
   refine⟨?_,?_⟩
   ·rw[get_flatK _ _ _ _ hj];simp only[FY,By,hheap,id];have hll:=Ty.enc_length (t:=.st t0) l[j / (Ty.st t0).size] hcs;rw[if_neg (by simp),e2,Ax (by omega),getElem!_pos l.toArray _ (by simpa using hq)];rw[Ed,Ax (by simp;omega)];simp
   ·have:=hfr j (by omega);simp only[FY,GD,hheap];cases fr;simp at this ⊢;intro h;exact G1 fun h'=>by have:=this h;omega
  rw[hn'];refine(hraw b cap l.toArray w hH hlt (by rw[←hn'];omega)).mono fun en w' ⟨he,m,os,hw⟩=>?_
  have hperm:=d1c hO l;have hS:l.toArray.size=l.length:=by simp
  rw[hS] at hw;generalize hD:pdq (ltOf cf) l.toArray 0 l.length (BQ l.length) true true=D at hperm hw;have hDs:D.size=l.length:=by simpa using hperm.length_eq
  have hSW:SortW w w' b c (putCells id 0 (flatK (Ty.st t0).enc (Ty.st t0).size D) c):=by rw[hw];exact h1x
  have hnew:=hSW.blk el fr hheap;have hcsz:(putCells id 0 (flatK (Ty.st t0).enc (Ty.st t0).size D) c).size=c.size:=by simp[putCells]
  refine⟨_,Z,[],[b],he,⟨[],⟨rfl,rfl⟩,by simp⟩,⟨_,_,[b],[],rfl,b6h,?_,rfl,rfl⟩,?_⟩
  ·show Rep A P (.sl .own e (.st t0)) Z w'.heap _ D.toList [b];refine f2c (by simp[hDs]) (by omega) (by rw[←hn'];exact hb) (by omega) ⟨⟨el,fr,hnew,hfle,fun i hi=>hfr i (by omega)⟩,fun he c2 el2 fr2 h2=>?_⟩ (by rw[hcsz,hc]) fun i hi=>?_
   ·rw[hnew] at h2;cases h2;rw[hcsz];exact hblk.nm he c el fr hheap
   ·have hi':i<D.size:=by simpa using hi
    rw[g3m (fun x=>Ty.enc_length (t:=.st t0) x hcs) (by rw[hDs,←hS];exact hsz) hi'];have hmem:D.toList[i]∈l:=hperm.mem_iff.1 (List.getElem_mem hi);obtain⟨q,hq,hqe⟩:=B2 hmem;have e1:=d2v hcs (hel q hq);have h5:=hel q hq;rw[e1] at h5;rw[getElem!_pos D i hi'];rw[show D[i]=D.toList[i] by simp,←hqe];exact a0g h5 (fun b=>id) fun k hk=>hk.elim (fun hk=>hSW.oth k (hzb k hk) fun hkb=>hdisb (hkb ▸ hk)) (by simp)
  ·exact⟨fun b=>id,hSW.size,fun k hk hkb=>hSW.oth k hk (by simpa using hkb),fun b hb=>.inl hb,fun b hb=>.inl hb,hSW.os,hSW.out,hSW.tape,fun b hb=>AV (hzb b hb) hSW.size,
    fun b' hb'=>by
     obtain rfl:b'=b:=by simpa using hb'
     exact AV hlt hSW.size,fun b' hb'=>by
     obtain rfl:b'=b:=by simpa using hb'
     exact hdisb,by simp⟩
end Go.Rb

namespace Go.Rb
open Go.Sort Go.Proofs
def b0e(t:Int):Int:=if t=0 then 0 else if t=4 then 2 else 1
def cmpZ(x y:Int):Int:=if x<y then -1 else if y<x then 1 else 0
def cmpV(t i:Int)(s:ByteArray)(t' i':Int)(s':ByteArray):Int :=
 if cmpZ (b0e t) (b0e t')≠0∨t=0 then cmpZ (b0e t) (b0e t') else if t=4 then Ce s.data.toList s'.data.toList else cmpZ i i'
theorem four(W:World)(a b c d:Obj):((((W.alloc a).alloc b).alloc c).alloc d).drew=grow (W.drewN 1) #[a,b,c,d]:=by
 rw[alloc_eq_grow,alloc_eq_grow,alloc_eq_grow,alloc_eq_grow,grow_grow,grow_grow,grow_grow];rfl
abbrev tV:Ty:=.st (.pair (.int .i64) (.pair (.int .i64) (.pair .str .unit)))
instance:Inhabited tV.den:=⟨tV.dflt⟩
def cfV(x y:tV.den):Int:=cmpV x.1 x.2.1 (toBA x.2.2.1) y.1 y.2.1 (toBA y.2.2.1)
theorem g9z{α:Type}{cf:α→α→Int}(hr:∀x,cf x x=0)(hs:∀x y,cf y x=- cf x y)(ht:∀x y z,cf x y≤0→cf y z≤0→cf x z≤0):SWO (ltOf cf) where
 irrefl x:=by simp[ltOf,hr]
 trans x y z h1 h2:=by
  simp only[ltOf,decide_eq_true_eq] at *;rcases Int.lt_or_le (cf x z) 0 with h|h
  ·exact h
  ·have a:=hs x z;have b:=ht y z x (by omega) (by omega);have c:=hs x y;omega
 ntrans x y z h1 h2:=by
  simp only[ltOf,decide_eq_false_iff_not] at *;have a:=hs x y;have b:=hs y z;have c:=ht z y x (by omega) (by omega);have d:=hs x z;omega
theorem e4o(x y:Int):cmpZ y x=- cmpZ x y:=by
 unfold cmpZ
 repeat' split
 all_goals omega
theorem d5c{x y:Int}:cmpZ x y≤0↔x≤y:=by
 unfold cmpZ
 repeat' split
 all_goals omega
theorem g4v{x y:Int}:cmpZ x y<0↔x<y:=by
 unfold cmpZ
 repeat' split
 all_goals omega
theorem b7a{x y:Int}:cmpZ x y=0↔x=y:=by
 unfold cmpZ
 repeat' split
 all_goals omega
theorem c6q:∀x,cmpI x x=0
 |[]=>rfl
 |a::x=>by simp[cmpI,c6q x]
theorem b8i:∀x y,cmpI y x=- cmpI x y
 |[],[]=>rfl
 |[],_::_=>rfl
 |_::_,[]=>rfl
 |a::x,b::y=>by
  have:=b8i x y;unfold cmpI
  repeat' split
  all_goals omega
theorem c7s:∀x y z,cmpI x y≤0→cmpI y z≤0→cmpI x z≤0
 |[],_,z,_,_=>by cases z <;> simp[cmpI]
 |_::_,[],_,h,_=>by simp[cmpI] at h
 |_::_,_::_,[],_,h=>by simp[cmpI] at h
 |a::x,b::y,c::z,h1,h2=>by
  have ih:=c7s x y z;unfold cmpI at h1 h2 ⊢
  repeat' split at h1
  all_goals repeat' split at h2
  all_goals repeat' split
  all_goals omega
theorem d9e:∀x y,cmpI x y=0→x=y
 |[],[],_=>rfl
 |[],_::_,h=>by simp[cmpI] at h
 |_::_,[],h=>by simp[cmpI] at h
 |a::x,b::y,h=>by
  unfold cmpI at h;split at h
  ·omega
  ·split at h
   ·omega
   ·rw[d9e x y h,show a=b by omega]
theorem a8d:∀x y,a1n x y=decide (cmpI x y<0)
 |[],[]=>rfl
 |[],_::_=>rfl
 |_::_,[]=>rfl
 |a::x,b::y=>by
  have:=a8d x y;unfold a1n cmpI;rw[this];by_cases h1:a<b
  ·simp[h1]
  ·by_cases h2:b<a
   ·have:¬a=b:=by omega
    simp[h1,h2,this]
   ·have:a=b:=by omega
    simp[this]
def d8h(l:List Int):List Int:=a1o (toBA l)
theorem d0g(s t:ByteArray):Ce s.data.toList t.data.toList=cmpI (a1o s) (a1o t):=e8q _ _
theorem d4e(x y:tV.den):cfV x y=if cmpZ (b0e x.1) (b0e y.1)≠0∨x.1=0 then cmpZ (b0e x.1) (b0e y.1) else if x.1=4 then cmpI (d8h x.2.2.1) (d8h y.2.2.1) else cmpZ x.2.1 y.2.1:=by
 unfold cfV cmpV d8h;rw[d0g]
theorem f1b(t t':Int):b0e t=b0e t'↔(t=0∧t'=0)∨(t=4∧t'=4)∨(t≠0∧t≠4∧t'≠0∧t'≠4):=by
 unfold b0e
 repeat' split
 all_goals omega
theorem g3h(x:tV.den):cfV x x=0:=by
 rw[d4e];have h1:cmpZ (b0e x.1) (b0e x.1)=0:=b7a.2 rfl;have h2:cmpZ x.2.1 x.2.1=0:=b7a.2 rfl;rw[h1,h2,c6q];simp
theorem g1b(x y:tV.den):cfV y x=- cfV x y:=by
 rw[d4e,d4e,e4o (b0e x.1),e4o x.2.1,b8i (d8h x.2.2.1)];by_cases h:cmpZ (b0e x.1) (b0e y.1)=0
 ·have hr:=(f1b x.1 y.1).1 (b7a.1 h);rw[h];rcases hr with⟨h1,h2⟩|⟨h1,h2⟩|⟨h1,h2,h3,h4⟩
  ·simp[h1,h2]
  ·simp[h1,h2]
  ·simp[h1,h2,h3,h4]
 ·rw[if_pos (.inl (by omega)),if_pos (.inl h)]
theorem f9o(x y z:tV.den)(h1:cfV x y≤0)(h2:cfV y z≤0):cfV x z≤0:=by
 have key:∀a b:tV.den,cfV a b≤0→b0e a.1≤b0e b.1:=fun a b h=>by
  rw[d4e] at h;split at h
  ·exact d5c.1 h
  ·rename_i hn;simp only[not_or,ne_eq,Decidable.not_not] at hn;have:=b7a.1 hn.1;omega
 have k1:=key _ _ h1;have k2:=key _ _ h2;by_cases h:cmpZ (b0e x.1) (b0e z.1)=0
 ·have e:=b7a.1 h;have e1:b0e x.1=b0e y.1:=by omega
  have e2:b0e y.1=b0e z.1:=by omega
  rw[d4e] at *;rw[b7a.2 e1] at h1;rw[b7a.2 e2] at h2;rw[h];rcases(f1b _ _).1 e1 with⟨q1,q2⟩|⟨q1,q2⟩|⟨q1,q2,q3,q4⟩
  ·simp[q1]
  ·rw[if_neg (by simp[q1]),if_pos q1] at h1;rw[if_neg (by simp[q2]),if_pos q2] at h2;rw[if_neg (by simp[q1]),if_pos q1];exact c7s _ _ _ h1 h2
  ·rw[if_neg (by simp[q1]),if_neg q2] at h1;rw[if_neg (by simp[q3]),if_neg q4] at h2;rw[if_neg (by simp[q1]),if_neg q2];exact d5c.2 (Int.le_trans (d5c.1 h1) (d5c.1 h2))
 ·rw[d4e,if_pos (.inl h)];exact d5c.2 (by omega)
theorem swoV:SWO (ltOf cfV):=g9z g3h g1b f9o
end Go.Rb

namespace Go.Rb
variable {A:Amb} {P:Program} {C:Ctx} {Z Z':Nat→Prop} {h h':Array Obj}
theorem Ty.le_self:∀{t:Ty},t.pure=true→t.le t=true
 |.int _,_|.bool,_|.str,_|.err,_|.unit,_|.fn _ _,_|.fn2 _ _ _,_|.ptr _,_|.lf _,_=>by simp[Ty.le]
 |.slh _ _,h=>by simp[Ty.pure] at h
 |.sl .imm e t,h=>by
  have h1:t.pure=true:=h;simp[Ty.le,Ty.le_self h1,h1,Md.le]
 |.sl .own e t,h=>by simp[Ty.pure] at h
 |.sl .hole e t,h=>by simp[Ty.pure] at h
 |.st t,h=>Ty.le_self (t:=t) h
 |.arr n t,h=>by
  have h1:t.pure=true:=h;simp[Ty.le,Ty.le_self h1]
 |.pair a b,h=>by
  simp only[Ty.pure,Af] at h;simp[Ty.le,Ty.le_self h.1,Ty.le_self h.2]
def Ty.free:Ty→Bool
 |.int _|.bool|.str|.err|.unit=>true
 |.sl .own _ t=>t.free
 |.sl _ _ _=>false
 |.st t|.arr _ t=>t.free
 |.pair a b=>a.free&&b.free
 |_=>false
theorem b8q:∀{t:Ty} {cs:List Value} {x:t.den} {fp:List Nat},t.free=true→Rep A P t Z h cs x fp→Rep A P t Z' h cs x fp
 |.int _,_,_,_,_,hr=>hr
 |.bool,_,_,_,_,hr=>hr
 |.str,_,_,_,_,hr=>hr
 |.err,_,_,_,_,hr=>hr
 |.unit,_,_,_,_,hr=>hr
 |.sl .own e t,cs,x,fp,hf,hr=>by
  obtain⟨a,n,cap,h0,h1,h2,h3,h4,h5⟩:=hr;refine⟨a,n,cap,h0,h1,h2,h3,h4,?_⟩;rcases h5 with h5|⟨b,c,fps,g1,g2,g3,g4,g5,g6⟩
  ·exact .inl h5
  ·exact .inr ⟨b,c,fps,g1,g2,g3,g4,g5,fun i hi=>b8q (t:=t) hf (g6 i hi)⟩
 |.sl .imm _ _,_,_,_,hf,_=>by simp[Ty.free] at hf
 |.sl .hole _ _,_,_,_,hf,_=>by simp[Ty.free] at hf
 |.st t,_,_,_,hf,hr=>b8q (t:=t) hf hr
 |.arr n t,cs,x,fp,hf,hr=>by
  obtain⟨h1,h2,h3,h4,h5⟩:=hr;exact⟨h1,h2,h3,h4,fun i hi=>b8q (t:=t) hf (h5 i hi)⟩
 |.pair a b,cs,x,fp,hf,hr=>by
  simp only[Ty.free,Af] at hf;obtain⟨c1,c2,f1,f2,h1,h2,h3,h4⟩:=hr;exact⟨c1,c2,f1,f2,h1,h2,b8q (t:=a) hf.1 h3,b8q (t:=b) hf.2 h4⟩
 |.slh _ _,_,_,_,hf,_=>by simp[Ty.free] at hf
 |.fn _ _,_,_,_,hf,_=>by simp[Ty.free] at hf
 |.fn2 _ _ _,_,_,_,hf,_=>by simp[Ty.free] at hf
 |.ptr _,_,_,_,hf,_=>by simp[Ty.free] at hf
 |.lf _,_,_,_,hf,_=>by simp[Ty.free] at hf
def f8t(rs:List RS):Bool:=rs.all fun|.val t=>t.free|.box t=>t.free
theorem c7r:∀{rs:List RS} {vs:List Value} {y:b5t rs} {fp:List Nat},f8t rs=true→d0p A P Z h rs vs y fp→d0p A P Z' h rs vs y fp
 |[],_,_,_,_,hr=>hr
 |.val t::rs,vs,y,fp,hf,hr=>by
  simp only[f8t,BD,Af] at hf;obtain⟨v,vs',f1,f2,h1,⟨cs,h2,h3⟩,h4,h5⟩:=hr;exact⟨v,vs',f1,f2,h1,⟨cs,h2,b8q hf.1 h3⟩,c7r hf.2 h4,h5⟩
 |.box t::rs,vs,y,fp,hf,hr=>by
  simp only[f8t,BD,Af] at hf;obtain⟨v,vs',f1,f2,h1,⟨b,c,f3,h2,h3,h4,h6⟩,h7,h5⟩:=hr;exact⟨v,vs',f1,f2,h1,⟨b,c,f3,h2,h3,b8q hf.1 h4,h6⟩,c7r hf.2 h7,h5⟩
theorem f3n{rs:List RS}{v:Value}{y:b5t rs}{fp:List Nat}(hf:f8t rs=true)(hr:d0h A P Z h rs v y fp):d0h A P Z' h rs v y fp:=by
 obtain⟨vs,h1,h2⟩:=hr;exact⟨vs,c7r hf h1,h2⟩
def g7k(e:Nat)(te:Ty):(ts:List Ty)→a2o (ts.map PS.val++[.sio (.sl .own e te)])→a2o (ts.map PS.val++[.val (.sl .imm e te)])
 |[],x=>x
 |_::ts,x=>(x.1,g7k e te ts x.2)
def g5o(e:Nat)(te:Ty):(ts:List Ty)→a2o (ts.map PS.val++[.sio (.sl .own e te)])→b1q (ts.map PS.val++[.sio (.sl .own e te)])
 |[],x=>x
 |_::ts,x=>g5o e te ts x.2
theorem e5p{e:Nat}{te:Ty}(hte:te.pure=true):∀{ts:List Ty} {vs:List Value} {x:a2o (ts.map PS.val++[.sio (.sl .own e te)])} {fp:List Nat},ts.all Ty.pure=true →
  a7b A P Z h (ts.map PS.val++[.sio (.sl .own e te)]) vs x fp →
  a7b A P (fun b=>Z b∨b∈fp) h (ts.map PS.val++[.val (.sl .imm e te)]) vs (g7k e te ts x) [] ∧
  ∀(Z':Nat→Prop) (h':Array Obj),(∀b,Z b→Z' b)→(∀b,Z b∨b∈fp→h'[b]?=h[b]?)→b0q A P Z' h' (ts.map PS.val++[.sio (.sl .own e te)]) vs (g5o e te ts x) fp
 |[],vs,x,fp,_,hr=>by
  obtain⟨v,vs',cs,f1,f2,hvs,hvc,hrep,⟨rfl,rfl⟩,rfl⟩:=hr;have hle:(Ty.sl .own e te).le (.sl .imm e te)=true:=by simp[Ty.le,Ty.le_self hte,hte,Md.le]
  obtain⟨fp',fz,hp,hf⟩:=b7o hle (HEq.rfl) hrep;have hfr:Rep A P (.sl .imm e te) (fun b=>Z b∨b∈f1++[]) h cs x.1 fp':=hf _ (fun b=>.inl) fun b hb=>.inr (by rw[A3];exact hp.symm.subset (Au _ hb))
  have hnil:fp'=[]:=by obtain⟨_,_,_,_,h1,_⟩:=hfr;exact h1
  subst hnil;exact⟨⟨v,[],cs,[],[],hvs,a9d (by simp[Ty.imm]) hvc,hfr,⟨rfl,rfl⟩,rfl⟩,fun Z' h' hz hh=>⟨v,cs,f1,[],by rw[hvs];rfl,hvc,a0g hrep hz fun b hb=>hh b (by simpa using hb),rfl,by simp⟩⟩
 |t::ts,vs,x,fp,hts,hr=>by
  simp only[BD,Af] at hts;obtain⟨v,vs',cs,f1,f2,hvs,hvc,hrep,hrest,rfl⟩:=hr;obtain rfl:f1=[]:=a1k hrep hts.1;obtain⟨g1,g2⟩:=e5p hte (ts:=ts) hts.2 hrest;refine⟨⟨v,vs',cs,[],[],hvs,hvc,a0g hrep (fun b=>.inl) fun _ _=>rfl,g1,rfl⟩,fun Z' h' hz hh=>?_⟩;have:=g2 Z' h' hz hh;rw[hvs];exact this
theorem d7o{f:FuncId}{e:Nat}{te:Ty}{ts:List Ty}{rs:List RS}{G:a2o (ts.map PS.val++[.val (.sl .imm e te)])→Option (b5t rs×b1q (ts.map PS.val++[.val (.sl .imm e te)]))}
  (hte:te.pure=true) (hts:ts.all Ty.pure=true) (hrs:f8t rs=true) (hS:a7s A P C f ⟨ts.map PS.val++[.val (.sl .imm e te)],rs⟩ G) :
  a7s A P C f ⟨ts.map PS.val++[.sio (.sl .own e te)],rs⟩ (fun x=>(G (g7k e te ts x)).map fun y=>(y.1,g5o e te ts x)):=by
 intro x y hy Z w vs fp hglob hzb hargs hnd hdis;obtain⟨y0,hy0,rfl⟩:=Option.map_eq_some_iff.1 hy;obtain⟨g1,g2⟩:=e5p hte hts hargs;have hfb:∀b,b∈fp→b<w.heap.size:=b7r hargs;refine(hS _ _ hy0 (fun b=>Z b∨b∈fp) w vs [] (hglob.mono (fun b=>.inl) fun _ _=>rfl) (fun b hb=>hb.elim (hzb b) (hfb b)) g1 List.nodup_nil (by simp)).mono ?_;rintro en w' ⟨v,Z2,fr,fi,he,hres,hios,hst⟩;have hfi:fi=[]:=b5j (by simp[a4u]) hios;subst hfi;rw[A3] at hst;refine⟨v,fun b=>Z2 b∧b∉fp,fr,fp,he,f3n hrs hres,g2 _ _ (fun b hb=>⟨hst.z b (.inl hb),fun hf=>hdis b hf hb⟩) (fun b hb=>hst.keep b (hb.elim (hzb b) (hfb b)) (by simp)),?_⟩;refine⟨fun b hb=>⟨hst.z b (.inl hb),fun hf=>hdis b hf hb⟩,hst.size,fun b hb _=>hst.keep b hb (by simp),?_,?_,hst.os,hst.out,hst.tape,fun b hb=>hst.zb b hb.1,?_,?_,?_⟩
 ·rintro b ⟨hb,hn⟩;rcases hst.znew b hb with(h1|h1)|h1|h1
  ·exact .inl h1
  ·exact absurd h1 hn
  ·simp at h1
  ·exact .inr (.inr h1)
 ·intro b hb;rcases Ao.1 hb with hb|hb
  ·rcases hst.fnew b hb with h1|h1
   ·simp at h1
   ·exact .inr h1
  ·exact .inl hb
 ·intro b hb;rcases Ao.1 hb with hb|hb
  ·exact hst.fb b hb
  ·exact AV (hfb b hb) hst.size
 ·intro b hb hz;rcases Ao.1 hb with hb|hb
  ·exact hst.disj b hb hz.1
  ·exact hz.2 hb
 ·refine List.nodup_append.2 ⟨hst.nodup,hnd,fun a ha b hb hab=>?_⟩;subst hab;exact hst.disj a ha (hst.z a (.inr hb))
def g1i(rs:List RS):Bool:=rs.all fun|.val t=>t.pure|.box _=>false
theorem d8t:∀{rs:List RS} {vs:List Value} {y:b5t rs} {fp:List Nat},g1i rs=true→d0p A P Z h rs vs y fp→fp=[]∧∀Z':Nat→Prop,(∀b,Z b→Z' b)→d0p A P Z' h rs vs y []
 |[],_,_,_,_,hr=>⟨hr.2,fun _ _=>⟨hr.1,rfl⟩⟩
 |.val t::rs,vs,y,fp,hf,hr=>by
  simp only[g1i,BD,Af] at hf;obtain⟨v,vs',f1,f2,h1,⟨cs,h2,h3⟩,h4,rfl⟩:=hr;obtain rfl:=a1k h3 hf.1;obtain⟨rfl,g⟩:=d8t hf.2 h4;exact⟨rfl,fun Z' hz=>⟨v,vs',[],[],h1,⟨cs,h2,a0g h3 hz fun _ _=>rfl⟩,g Z' hz,rfl⟩⟩
 |.box t::rs,vs,y,fp,hf,hr=>by simp[g1i] at hf
theorem e2r:∀{ps:List PS} (_:a4u ps=true) (Z:Nat→Prop) (vs:List Value) (y:b1q ps),b0q A P Z h ps vs y []
 |[],_,_,_,_=>rfl
 |.val _::ps,hv,Z,vs,y=>e2r (ps:=ps) (by unfold a4u at *;rw[BD,Af] at hv;exact hv.2) Z vs.tail y
 |.io _::_,hv,_,_,_=>by simp[a4u] at hv
 |.sio _::_,hv,_,_,_=>by simp[a4u] at hv
theorem d3t{f:FuncId}{e:Nat}{te:Ty}{ps:List PS}{rs:List RS}{G:a2o ps→Option (b5t (.val (.sl .own e te)::rs)×b1q ps)}
  (hte:te.pure=true) (hrs:g1i rs=true) (hvals:a4u ps=true) (hS:a7s A P C f ⟨ps,.val (.sl .own e te)::rs⟩ G) :
  a7s A P C f ⟨ps,.val (.sl .imm e te)::rs⟩ G:=by
 intro x y hy Z w vs fp hglob hzb hargs hnd hdis;refine(hS x y hy Z w vs fp hglob hzb hargs hnd hdis).mono ?_;rintro en w' ⟨v,Z2,fr,fi,he,⟨vs',h1,h2⟩,hios,hst⟩;have hfi:fi=[]:=b5j hvals hios;subst hfi;rw[A3] at hst;obtain⟨v1,vs2,f1,f2,g1,⟨cs,g2,g3⟩,g4,rfl⟩:=h1;obtain⟨rfl,g5⟩:=d8t hrs g4;rw[A3] at hst;have hle:(Ty.sl .own e te).le (.sl .imm e te)=true:=by simp[Ty.le,Ty.le_self hte,hte,Md.le]
 obtain⟨fp',fz,hp,hf⟩:=b7o hle (HEq.rfl) g3;have hfr:Rep A P (.sl .imm e te) (fun b=>Z2 b∨b∈f1) w'.heap cs y.1.1 fp':=hf _ (fun b=>.inl) fun b hb=>.inr (hp.symm.subset (Au _ hb))
 have hnil:fp'=[]:=by obtain⟨_,_,_,_,h1,_⟩:=hfr;exact h1
 subst hnil;refine⟨v,fun b=>Z2 b∨b∈f1,[],[],he,⟨vs',⟨v1,vs2,[],[],g1,⟨cs,a9d (by simp[Ty.imm]) g2,hfr⟩,g5 _ fun b=>.inl,rfl⟩,h2⟩,e2r hvals _ _ _,?_⟩;refine⟨fun b hb=>.inl (hst.z b hb),hst.size,hst.keep,?_,by simp,hst.os,hst.out,hst.tape,?_,by simp,by simp,by simp⟩
 ·rintro b (hb|hb)
  ·exact hst.znew b hb
  ·exact .inr (hst.fnew b hb)
 ·rintro b (hb|hb)
  ·exact hst.zb b hb
  ·exact hst.fb b hb
end Go.Rb

namespace Go.Rb
open Go.RowKit
variable {A:Amb} {P:Program} {C:Ctx} {Z Z':Nat→Prop} {h h':Array Obj}
def HF(xs:List Int)(n k i:Nat):Value:=if i<n then .int .u8 (xs.getD i 0) else if i<n+k then .int .u8 (161+((i - n:Nat):Int)) else .int .u8 0
def HG(xs:List Int)(k i:Nat):Value:=if i<k then .int .u8 (xs.getD i 0) else .int .u8 0
def e0b(x:List Int×Unit):Option ((List Int×Unit)×Unit):=if x.1.length+5≤room then some ((x.1,()),()) else none
def g6c(x:List Int×List Int×Unit):Option ((Bool×Unit)×Unit):=some ((decide (x.1=x.2.1),()),())
theorem e2v{f:FuncId}{E:TypeId}
  (hnil:∀(a:Option Addr) (cap:Nat) (w:World),Calls P f #[.slice a 0 cap] w fun e w'=>e=.returned (.slice (some ⟨w.heap.size,0,none⟩) 0 5)∧w'.rowIs w.heap.size E 5 (HF [] 0 5)∧Below w.heap.size w w')
  (hraw:∀(bs os n cap:Nat) (xs:List Int) (w:World),(∀i,i<n→0≤xs.getD i 0∧xs.getD i 0<256)→(∀i,i<n→w.cell? ⟨bs,os+i,none⟩=some (.int .u8 (xs.getD i 0)))→bs<w.heap.size→n+5≤140737488355328 →
   Calls P f #[.slice (some ⟨bs,os,none⟩) n cap] w fun e w'=>e=.returned (.slice (some ⟨w.heap.size,0,none⟩) n (n+5))∧w'.rowIs w.heap.size E (n+5) (HF xs n 5)∧Below w.heap.size w w') :
  a7s A P C f ⟨[.val (.sl .imm 1 (.int .u8))],[.val (.lf .hnd)]⟩ e0b:=by
 intro x y hy Z w vs fp hglob hzb hargs hnd hdis;obtain⟨l,u⟩:=x;unfold e0b at hy;dsimp only at hy;have hro:room=140737488355328:=rfl;by_cases hroom:l.length+5≤room
 rotate_left
 ·rw[if_neg hroom] at hy;cases hy
 rw[if_pos hroom] at hy;cases hy;obtain⟨v,vs',cs,f1,f2,hvs,hvc,hrep,⟨rfl,rfl⟩,rfl⟩:=hargs;obtain rfl:=c3h hvs;dsimp only at hrep;obtain⟨a,n,cap,rfl,rfl,hn,hcap,_,_,hor⟩:=hrep;obtain rfl:=a0w rfl hvc;have u1:Ah.min=0:=by decide
 have u2:Ah.max=255:=by decide
 have fin:∀w':World,(∀i (hi:i<l.length),0≤l[i]∧l[i]≤255)→w'.rowIs w.heap.size E (n+5) (HF l n 5)→Below w.heap.size w w' →
   ∃v Z' fr fi,C3 (.slice (some ⟨w.heap.size,0,none⟩) n (n+5))=.returned v∧d0h A P Z' w'.heap [.val (.lf .hnd)] v (l,()) fr∧b0q A P Z' w'.heap [.val (.sl .imm 1 (.int .u8))] [.slice a n cap] () fi∧Step Z w ([]++[]) Z' w' (fr++fi):=by
  intro w' hl hrow hbw;obtain⟨c,hc1,hc2,hc3⟩:=hrow;have hlt:w.heap.size<w'.heap.size:=(Array.getElem?_eq_some_iff.1 hc1).1;refine⟨_,fun b=>Z b∨b=w.heap.size,[],[],rfl,c1i (cs:=[.slice (some ⟨w.heap.size,0,none⟩) n (n+5)]) (a0x rfl rfl (by simp)) ⟨rfl,?_⟩,rfl,?_⟩
  ·refine⟨w.heap.size,c,E,(0,0),by rw[hn],.inr rfl,hc1,fun i hi=>⟨?_,hl i hi⟩,fun i hi=>?_,hroom⟩
   ·rw[hc3 i (by omega)];unfold HF;rw[if_pos (by omega),AJ,Ax hi];rfl
   ·rw[hc3 _ (by omega)];unfold HF;rw[if_neg (by omega),if_pos (by omega),show l.length+i - n=i by omega]
  ·refine⟨fun b=>.inl,hbw.size,fun b hb _=>hbw.block b hb,?_,by simp,hbw.os,hbw.output,hbw.tape,?_,by simp,by simp,by simp⟩
   ·rintro b (hb|rfl)
    ·exact .inl hb
    ·exact .inr (.inr (Av _))
   ·rintro b (hb|rfl)
    ·exact AV (hzb b hb) hbw.size
    ·exact hlt
 rcases hor with rfl|⟨ad,cells,rfl,hz,hrow,hel⟩
 ·have hn0:n=0:=by simpa using hn
  subst hn0;refine(hnil a cap w).mono ?_;rintro en w' ⟨rfl,g1,g2⟩;exact fin w' (by simp) g1 g2
 ·obtain⟨bs,os,sp⟩:=ad;obtain⟨hsp,hlen,c,el,fr,hc1,hc2⟩:=hrow;dsimp only at hsp hz hc1 hc2;subst hsp;have hcell:∀i (hi:i<l.length),c[os+i]?=some (.int .u8 l[i])∧0≤l[i]∧l[i]≤255:=by
   intro i hi;obtain⟨_,h1,h2,h3⟩:=hel i hi;rw[u1] at h2;rw[u2] at h3;refine⟨?_,h2,h3⟩;rw[hc2 i (by simp[Ty.size];omega)];have h1':seg cells (i*1) 1=[.int .u8 l[i]]:=h1;have:(seg cells (i*1) 1)[0]?=some (C1 .u8 l[i]):=by rw[h1'];rfl
   simp only[seg,D5,AO,Ba] at this;simpa using this
  have hget:∀i (hi:i<l.length),l.getD i 0=l[i]:=fun i hi=>by rw[AJ,Ax hi];rfl
  refine(hraw bs os n cap l w (fun i hi=>?_) (fun i hi=>?_) (hzb _ hz) (by omega)).mono ?_
  ·have h1:=(hcell i (by omega)).2.1;have h2:=(hcell i (by omega)).2.2;rw[hget i (by omega)];exact⟨h1,Int.lt_of_le_of_lt h2 (by decide)⟩
  ·rw[hget i (by omega)];simp[By,hc1,(hcell i (by omega)).1]
  ·rintro en w' ⟨rfl,g1,g2⟩;exact fin w' (fun i hi=>(hcell i hi).2) g1 g2
theorem g2d{T E S:TypeId}(q1:P.underlying T=some (.slice E))(q2:P.underlying E=some (.int .u8))(q3:P.underlying S=some .string){w:World}{a:Option Addr}{n cap:Nat}{l:List Int}
  (hr:Rep A P (.sl .imm 1 (.int .u8)) Z w.heap [.slice a n cap] l []):(convert T S (.slice a n cap)).run P w=.ok (.string (strOfNums l)) w∧∀x,x∈l→Ah.min≤x∧x≤Ah.max:=by
 obtain⟨a',n',cap',h0,_,hn,hcap,_,_,hor⟩:=hr;simp only[AB,AP,and_true] at h0;obtain⟨rfl,rfl,rfl⟩:=h0;rcases hor with rfl|⟨ad,cells,rfl,hz,hrow,hel⟩
 ·have hn0:n=0:=by simpa using hn
  subst hn0;refine⟨?_,by simp⟩;rw[run_convert_bytes_string w T S E _ _ _ q1 q2 q3];cases a with
  |none =>
   simp[Conv.bytesToString,strOfNums];rfl
  |some ad =>
   have h8:(loadCells ad 0).run P w=.ok (([]:List Int).map (C1 .u8)).toArray w:=by
    simp[loadCells,loadCellsFrom]
   rw[run_bytesToString w ad 0 cap [] h8,foldl_push_bytes];simp[strOfNums,ByteArray.empty,ByteArray.emptyWithCapacity];rfl
 ·obtain⟨bs,os,sp⟩:=ad;obtain⟨hsp,hlen,c,el,fr,hc1,hc2⟩:=hrow;dsimp only at hsp hz hc1 hc2;subst hsp;have hcell:∀i (hi:i<l.length),c[os+i]?=some (.int .u8 l[i])∧Ah.min≤l[i]∧l[i]≤Ah.max:=by
   intro i hi;obtain⟨_,h1,h2,h3⟩:=hel i hi;refine⟨?_,h2,h3⟩;rw[hc2 i (by simp[Ty.size];omega)];have h1':seg cells (i*1) 1=[.int .u8 l[i]]:=h1;have:(seg cells (i*1) 1)[0]?=some (C1 .u8 l[i]):=by rw[h1'];rfl
   simp only[seg,D5,AO,Ba] at this;simpa using this
  refine⟨Gu w T E q1 q2 bs os n cap l (by omega) (fun i hi=>?_) S q3,fun x hx=>?_⟩
  ·have hi':i<l.length:=by omega
   rw[AJ,Ax hi'];simp[By,hc1,(hcell i hi').1]
  ·obtain⟨i,hi,rfl⟩:=B2 hx;exact(hcell i hi).2
theorem f2q{f:FuncId}{T E S:TypeId}(q1:P.underlying T=some (.slice E))(q2:P.underlying E=some (.int .u8))(q3:P.underlying S=some .string)
  (hno:∀(bx n m capb:Nat) (b:Option Addr) (sx sy:ByteArray) (w:World),(convert T S (.slice (some ⟨bx,0,none⟩) n (n+5))).run P w=.ok (.string sx) w→(convert T S (.slice b m capb)).run P w=.ok (.string sy) w→¬sx.toList=sy.toList →
   Calls P f #[.slice (some ⟨bx,0,none⟩) n (n+5),.slice b m capb] w fun e w'=>e=.returned (.bool false)∧w'=w)
  (hyes:∀(bx n capb:Nat) (b:Option Addr) (sx:ByteArray) (w:World),(convert T S (.slice (some ⟨bx,0,none⟩) n (n+5))).run P w=.ok (.string sx) w→(convert T S (.slice b n capb)).run P w=.ok (.string sx) w →
   (∀i:Nat,i<5→w.cell? ⟨bx,n+i,none⟩=some (.int .u8 (161+(i:Int))))→n+5≤140737488355328 →
   Calls P f #[.slice (some ⟨bx,0,none⟩) n (n+5),.slice b n capb] w fun e w'=>e=.returned (.bool true)∧w'=w) :
  a7s A P C f ⟨[.val (.lf .hnd),.val (.sl .imm 1 (.int .u8))],[.val .bool]⟩ g6c:=by
 intro x y hy Z w vs fp hglob hzb hargs hnd hdis;cases hy;obtain⟨l,l2,u⟩:=x;obtain⟨v1,vs',cs,f1,f2,hvs,hvc,hrep,⟨v2,vs2,cs2,f3,f4,hvs2,hvc2,hrep2,⟨rfl,rfl⟩,rfl⟩,rfl⟩:=hargs;subst hvs2;obtain rfl:=c2t hvs;dsimp only at hrep hrep2 ⊢;have hro:room=140737488355328:=rfl;have u1:Ah.min=0:=by decide
 have u2:Ah.max=255:=by decide
 obtain⟨rfl,bx,c,el,fr,rfl,hz,hc1,hc2,hc3,hroom⟩:=hrep;obtain rfl:=a0w rfl hvc;have hrep2':=hrep2;obtain⟨b,m,capb,rfl,rfl,hm,_⟩:=hrep2';obtain rfl:=a0w rfl hvc2;obtain⟨k2,r2⟩:=g2d q1 q2 q3 hrep2;have r1:∀x,x∈l→Ah.min≤x∧x≤Ah.max:=fun x hx=>by
  obtain⟨i,hi,rfl⟩:=B2 hx;have:=(hc2 i hi).2;rw[u1,u2];exact this
 have k1:(convert T S (.slice (some ⟨bx,0,none⟩) l.length (l.length+5))).run P w=.ok (.string (strOfNums l)) w:=by
  refine Gu w T E q1 q2 bx 0 l.length (l.length+5) l rfl (fun i hi=>?_) S q3;rw[AJ,Ax hi];simp[By,hc1,(hc2 i hi).1]
 have fin:∀w',w'=w→∀q:Bool,q=decide (l=l2)→∃v Z' fr fi,C3 (.bool q)=.returned v∧d0h A P Z' w'.heap [.val .bool] v (decide (l=l2),()) fr∧b0q A P Z' w'.heap [.val (.lf .hnd),.val (.sl .imm 1 (.int .u8))] [.slice (some ⟨bx,0,none⟩) l.length (l.length+5),.slice b m capb] () fi∧Step Z w ([]++([]++[])) Z' w' (fr++fi):=by
  rintro _ rfl _ rfl;exact⟨_,Z,[],[],rfl,c1i (a0x rfl rfl (by simp)) ⟨rfl,rfl⟩,rfl,⟨fun b=>id,Av _,fun _ _ _=>rfl,fun b hb=>.inl hb,by simp,rfl,rfl,rfl,hzb,by simp,by simp,by simp⟩⟩
 by_cases he:l=l2
 ·subst he;obtain rfl:m=l.length:=hm;refine(hyes bx l.length capb b _ w k1 k2 (fun i hi=>?_) (by omega)).mono ?_
  ·simp[By,hc1,hc3 i hi]
  ·rintro en w' ⟨rfl,hw⟩;exact fin w' hw true (by simp)
 ·refine(hno bx l.length m capb b _ _ w k1 k2 (fun heq=>he ?_)).mono ?_
  ·have:=c2h (strOfNums l) (strOfNums l2);rw[b3g r1,b3g r2,heq] at this;simpa using this.symm
  ·rintro en w' ⟨rfl,hw⟩;exact fin w' hw false (by simp[he])
end Go.Rb

namespace Go.Rb
variable {A:Amb} {P:Program} {C:Ctx} {w:World} {Z Z':Nat→Prop}
def d2f(q:Int×Nat×Nat):Value:=.agg #[.func (.func q.2.1) #[] #[],.func (.func q.2.2) #[] #[]]
def b7b(l:List (Int×Nat×Nat)):Array MapEntry:=(l.zipIdx.map fun q=>({ key:=.int .i64 q.1.1,val:=d2f q.1,born:=q.2 }:MapEntry)).toArray
def b7i(w:World)(l:List (Int×Nat×Nat)):World:=w.alloc (.map (b7b l) l.length)
theorem e3s(w:World)(l:List (Int×Nat×Nat)):(b7i w l).heap[w.heap.size]?=some (.map (b7b l) l.length):=by
 show(w.heap.push (.map (b7b l) l.length))[w.heap.size]?=_;rw[DG,if_pos rfl]
theorem f2k(l:List (Int×Nat×Nat))(q:Int×Nat×Nat):(b7b l).push { key:=.int .i64 q.1,val:=d2f q,born:=l.length }=b7b (l++[q]):=by
 unfold b7b;rw[List.zipIdx_append];simp
theorem d2x(k:Int):∀(es:List MapEntry) (i:Nat),(∀e,e∈es→∃q,e.key=.int .i64 q∧k≠q)→Fe (.int .i64) (.int .i64 k) es i=some none
 |[],_,_=>rfl
 |e::es,i,h=>by
  obtain⟨q,h1,h2⟩:=h e (by simp);have:(k==q)=false:=by simpa using h2
  unfold Fe;rw[h1];simp only[Instr.sameNow,if_true,this];exact d2x k es (i+1) fun e he=>h e (Ar _ he)
theorem a8h{T K E:TypeId}(hT:P.underlying T=some (.map K E))(hK:P.underlying K=some (.int .i64))(l:List (Int×Nat×Nat))(q:Int×Nat×Nat)(hq:∀x,x∈l→q.1≠x.1) :
  (Eh T (.map (some w.heap.size)) (.int .i64 q.1) (d2f q)).run P (b7i w l)=.ok () (b7i w (l++[q])):=by
 have hget:=e3s w l;have hgo:(getObj w.heap.size).run P (b7i w l)=.ok (.map (b7b l) l.length) (b7i w l):=by simp only[getObj,Dy,hget]
 have hset:(setObj w.heap.size (.map ((b7b l).push { key:=.int .i64 q.1,val:=d2f q,born:=l.length }) (l.length+1))).run P (b7i w l)=.ok () { b7i w l with heap:=(b7i w l).heap.setIfInBounds w.heap.size (.map ((b7b l).push { key:=.int .i64 q.1,val:=d2f q,born:=l.length }) (l.length+1)) }:=by
  simp[setObj,Dy,hget]
 have hck:∀n w,(EQ false (n+1) K (.int .i64 q.1)).run P w=.ok () w:=by
  intro n w;unfold EQ;simp[Ay hK]
 have hfn:=d2x q.1 (b7b l).toList 0 (by
  intro e he;simp only[b7b,List.mem_map] at he;obtain⟨x,hx,rfl⟩:=he;exact⟨_,rfl,hq _ (List.fst_mem_of_mem_zipIdx hx)⟩)
 have hw:({ b7i w l with heap:=(b7i w l).heap.setIfInBounds w.heap.size (.map ((b7b l).push { key:=.int .i64 q.1,val:=d2f q,born:=l.length }) (l.length+1)) }:World)=b7i w (l++[q]):=by
  rw[f2k];have:(w.heap.push (.map (b7b l) l.length)).setIfInBounds w.heap.size (.map (b7b (l++[q])) (l.length+1))=w.heap.push (.map (b7b (l++[q])) (l++[q]).length):=by
   rw[List.length_append,List.length_singleton];apply Array.ext_getElem?;intro i;by_cases hi:i=w.heap.size
   ·subst hi;simp
   ·rw[Array.getElem?_setIfInBounds_ne (Ne.symm hi)];simp only[DG,hi,if_false]
  show({ w with heap:=(w.heap.push (.map (b7b l) l.length)).setIfInBounds w.heap.size (.map (b7b (l++[q])) (l.length+1)) }:World)={ w with heap:=w.heap.push (.map (b7b (l++[q])) (l++[q]).length) };rw[this]
 unfold Eh;simp[Ay hT,Ay hK,hgo,hck,Instr.findKey,hfn,hset];exact hw
theorem f9x{ops:Array Oper}{o:Oper}{rest:List Oper}{a:Act}{w1:World}{Q:Exit→Act→World→Prop}(hg:o.guard=none)(hd:o.dst=none)(hr:(execOp a.eval o).run P w=.ok .skip w1)(h:wpList P ops Q rest a w1) :
  wpList P ops Q (o::rest) a w :=
 wpList_plain hg fun K hK=>by
  unfold Oper.wp;rw[hr,Oper.upon_skip,hd];exact hK _ _ h
theorem c2a{ops:Array Oper}{o:Oper}{rest:List Oper}{a:Act}{w1:World}{Q:Exit→Act→World→Prop}(hg:o.guard=none)(hd:o.dst=none)(T:TypeId)(m k x:Operand)(hop:o.op=.insert T m k x)
  (hr:(Eh T (a.eval m) (a.eval k) (a.eval x)).run P w=.ok () w1) (h:wpList P ops Q rest a w1):wpList P ops Q (o::rest) a w :=
 f9x hg hd (by simp[execOp,hop,hr]) h
theorem e3z{f:FuncId}{l:List (Int×Nat×Nat)}(hraw:∀w,Calls P f #[] w fun e w'=>e=.returned (.map (some w.heap.size))∧w'=b7i w l) :
  a7s A P C f ⟨[],[.val (.lf (.fmap l))]⟩ (fun _=>some (((),()),())):=by
 intro x y hy Z w vs fp hglob hzb hargs hnd hdis;obtain rfl:=Ai hy;obtain⟨hvs,rfl⟩:=hargs;have hvs':vs=#[]:=by apply Array.toList_inj.1;simpa using hvs
 subst hvs';refine(hraw w).mono ?_;rintro en w' ⟨rfl,rfl⟩;have hget:=e3s w l;have hsz:(b7i w l).heap.size=w.heap.size+1:=Array.size_push _;have hold:∀b,b<w.heap.size→(b7i w l).heap[b]?=w.heap[b]?:=fun b hb=>by
  show(w.heap.push (.map (b7b l) l.length))[b]?=_;rw[DG,if_neg (Nat.ne_of_lt hb)]
 refine⟨_,fun b=>Z b∨b=w.heap.size,[],[],rfl,c1i (cs:=[.map (some w.heap.size)]) (a0x rfl rfl (by simp)) ⟨rfl,w.heap.size,b7b l,l.length,rfl,.inr rfl,hget,?_⟩,rfl,?_⟩
 ·simp only[b7b,Cv];have:(l.zipIdx.map fun q=>q.1)=l:=List.zipIdx_map_fst 0 l
  conv=>rhs;rw[←this,Cv]
  rfl
 ·refine⟨fun b=>.inl,by omega,fun b hb _=>hold b hb,?_,by simp,rfl,rfl,rfl,?_,by simp,by simp,by simp⟩
  ·rintro b (hb|rfl)
   ·exact .inl hb
   ·exact .inr (.inr (Av _))
  ·rintro b (hb|rfl)
   ·have:=hzb b hb;omega
   ·omega
end Go.Rb

namespace Go.Rb
variable {A:Amb} {P:Program} {C:Ctx} {w w':World} {Z Z':Nat→Prop} {h h':Array Obj}
theorem d4p{T T2 ty el:TypeId}{i:TypeInfo}{z:Value}(ht:P.underlying T=some (.slice el))(h2:P.underlying T2=some (.int .i64))(hi:P.info? el=some i)(hz:i.zero=some z)
  (hzs:z.cells.size=i.size) (hby:1≤i.bytes) {k:Nat} (hk:0<k) (hroom:k*i.bytes≤room) :
  ∃w' cap' c',(B8 #[T,T2] ty #[.slice none 0 0,.int .i64 (k:Int)]).run P w=.ok (.slice (some ⟨w.heap.size,0,none⟩) k cap') w'∧w'.os=w.os∧w'.output=w.output∧w'.tape=w.tape∧w'.heap.size=w.heap.size+1 ∧
   (∀b,b<w.heap.size→w'.heap[b]?=w.heap[b]?)∧BlkE 0 w'.heap w.heap.size c'∧c'.size=cap'*i.size∧k≤cap':=by
 have hnm:k≤room:=Bo (Cc _ hby) hroom;have h63:¬(9223372036854775807<(k:Int)):=by unfold room at hnm;omega
 have hwk:Aa.wrap (k:Int)=(k:Int):=by
  unfold room at hnm;simp only[IntKind.wrap,IntKind.bits,IntKind.signed,if_true];simp;split <;> omega
 have hk0:¬((k:Int)<0):=by omega
 have hk48:¬(281474976710656<(k:Int)*(i.bytes:Int)):=by
  have:(k:Int)*(i.bytes:Int)=((k*i.bytes:Nat):Int):=by simp
  rw[this];unfold room at hroom;omega
 have h48:¬(281474976710656<Builtin.nextslicecap k 0*i.bytes):=by
  have:=growslice_fits (need:=k) (old:=0) (bytes:=i.bytes) (by omega) hroom;omega
 let w1:World:=w.drew
 have hw1:w1.heap=w.heap:=rfl;have hge:=grownCap_ge w k 0 el
 let mid:Array Value:=if k*i.size=0 then #[] else Cd z.cells k
 have hmid:mid.size=k*i.size:=by
  simp only[mid];split
  ·rename_i h0;simp[h0]
  ·rw[Jx,hzs]
 let cells:Array Value:=mid++Cd z.cells (grownCap w k 0 el - k)
 have hcells:cells.size=grownCap w k 0 el*i.size:=by
  simp only[cells,Array.size_append,Jx,hzs,hmid,←Bi];congr 1;omega
 obtain⟨w',q1,q2,q3,q4,q5,q6,q7⟩:=a5u (P:=P) (w:=w1) el cells;have hk1:¬(k=0):=by omega
 refine⟨w',grownCap w k 0 el,cells,?_,q2,q3,q4,by rw[q5,hw1],fun b hb=>q6 b hb,q7,hcells,hge⟩;simp only[w1] at q1;by_cases hks:k*i.size=0
 ·have hm0:mid=#[]:=by simp only[mid,hks,if_true]
  simp only[cells,hm0,grownCap,Da,Array.append_empty,Array.empty_append] at q1;simp[B8,Ay ht,Ay h2,sizeOf,typeInfo,zeroValue,hi,hz,asInt,asIntOf,hwk,hk0,hk48,hk1,h63,h48,FN,AU,hks];simp only[grownCap,Da] at q1 ⊢
  first|exact q1|(rw[q1];rfl)
 ·have hm0:mid=Cd z.cells k:=by simp only[mid,hks,if_false]
  simp only[cells,hm0,grownCap,Da] at q1;simp[B8,Ay ht,Ay h2,sizeOf,typeInfo,zeroValue,hi,hz,asInt,asIntOf,hwk,hk0,hk48,hk1,h63,h48,FN,AU,hks];simp only[grownCap,Da] at q1 ⊢
  first|exact q1|(rw[q1];rfl)
def g3f(e:Nat)(te:Ty)(x:Unit×Int×Unit):Option ((List te.den×Unit)×Unit) :=
 if 0≤x.2.1∧x.2.1*e≤room then some (([],()),()) else none
theorem e7c{vs:Array Value}{a b:Value}(h:vs.toList=[a,b]):vs=#[a,b]:=by
 cases vs;simp at h;subst h;rfl
theorem f5g{f:FuncId}{T e:Nat}{te:Ty}(htab:a3q P C)(hT:C.ty T=some (.sl .imm e te))(hI3:P.underlying 3=some (.int .i64)){z:List Value}(hz:zeroCells te=some z)
  (h0:∀w:World,Calls P f #[.slice none 0 0,.int .i64 0] w fun en w'=>en=.returned (.slice none 0 0)∧w'=w)
  (h1:∀(w w1:World) (n cap b:Nat),0<n→n≤140737488355328→n≤cap→(B8 #[T,3] T #[.slice none 0 0,.int .i64 (n:Int)]).run P w=.ok (.slice (some ⟨b,0,none⟩) n cap) w1 →
   Calls P f #[.slice none 0 0,.int .i64 (n:Int)] w fun en w'=>en=.returned (.slice (some ⟨b,0,none⟩) 0 cap)∧w'=w1) :
  a7s A P C f ⟨[.val (.lf .nil0),.val (.int .i64)],[.val (.sl .own e te)]⟩ (g3f e te):=by
 intro x y hy Z w vs fp hglob hzb hargs hnd hdis;unfold g3f at hy;split at hy
 ·rename_i hcond;obtain⟨c1,c2⟩:=hcond;cases hy;obtain⟨u0,i,u⟩:=x;dsimp only at *;obtain⟨v1,vs',cs,f1,f2,hvs,hvc,hrep,⟨v2,vs2,cs2,f3,f4,hvs2,hvc2,hrep2,⟨rfl,rfl⟩,rfl⟩,rfl⟩:=hargs;obtain⟨rfl,rfl,_,_⟩:=hrep2;obtain⟨rfl,hcs⟩:=hrep;have hcs:cs=[.slice none 0 0]:=hcs;subst hcs;obtain rfl:=a0w rfl hvc;obtain rfl:=a0w rfl hvc2;subst hvs2;obtain rfl:=e7c hvs;obtain⟨el,ti,q1,q2,q3,q4,q5,q6,q7,q8,q9⟩:=b2h htab hT;obtain⟨ti',dd,p1,p2,p3,p4,p5⟩:=(htab _ _ q2).ex;rw[q3] at p1;obtain rfl:=Ai p1;obtain⟨zv,p6,p7⟩:=p5 z hz;have hzs:zv.cells.size=ti.size:=by
   have g1:=a7t p7;have g2:=a1p (a6b (A:=A) (P:=P) (Z:=Z) (h:=w.heap) hz);rw[←AQ,g1,g2,q9]
  obtain⟨n,rfl⟩:∃n:Nat,i=(n:Int):=⟨i.toNat,(Int.toNat_of_nonneg c1).symm⟩
  have c3:n*e≤room:=by exact_mod_cast c2
  have hnr:n≤room:=Bo (Cc _ q5) c3;rcases Cm n with hn|hn
  ·subst hn;refine(h0 w).mono fun en w' ⟨he,hw⟩=>?_
   subst hw;refine⟨_,Z,[],[],he,c1i b6h (c5k (m:=.own)),rfl,?_⟩;exact⟨fun b=>id,Av _,fun _ _ _=>rfl,fun b hb=>.inl hb,fun b hb=>.inl hb,rfl,rfl,rfl,hzb,fun b hb=>by simp at hb,fun b hb=>by simp at hb,by simp⟩
  ·obtain⟨w1,cap,c,g1,g2,g3,g4,g5,g6,g7,g8,g9⟩:=d4p (P:=P) (w:=w) (T:=T) (T2:=3) (ty:=T) q1 hI3 q3 p6 hzs (by rw[q4];exact q5) hn (by rw[q4];exact c3);refine(h1 w w1 n cap w.heap.size hn hnr g9 g1).mono fun en w' ⟨he,hw⟩=>?_
   subst hw;have hnm:NoMk w'.heap w.heap.size:=g7.nm (by decide);refine⟨_,Z,[w.heap.size],[],he,c1i b6h (f2c (n:=0) rfl (BF _) (by simp) (BF _) ⟨g7.blk,fun _=>hnm⟩ (by rw[g8,q9]) (fun i hi=>by simp at hi)),rfl,?_⟩;exact⟨fun b=>id,by omega,fun b hb _=>g6 b hb,fun b hb=>.inl hb,fun b hb=>by simp at hb;subst hb;exact .inr (Av _),g2,g3,g4,fun b hb=>by have:=hzb b hb;omega,
    fun b hb=>by simp at hb;subst hb;omega,fun b hb hz=>by simp at hb;subst hb;have:=hzb _ hz;omega,by simp⟩
 ·cases hy
end Go.Rb
