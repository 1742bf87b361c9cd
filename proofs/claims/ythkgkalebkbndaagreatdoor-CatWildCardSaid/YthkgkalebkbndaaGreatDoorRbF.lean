/- Rb: from a contract of a law's function to its row. Own work. -/
import Derived.Test.YthkgkalebkbndaaGreatDoorRbE
import Derived.ChangeShapes
import Derived.SizedLaws
import Derived.ChangeBears2
import Derived.OpenShut
set_option autoImplicit false
set_option linter.unusedVariables false
set_option linter.unusedSimpArgs false
open Bool renaming and_eq_true->Af
open Go.Cell renaming okWide->Ib
open Go.DataW renaming TrodAll->Bj,weightsEach->Dy
open Go.Value renaming cells->Cz,okWide->BY
open List renaming getElem_of_mem->Bf
namespace Go.Rb
open Go.RowKit Go.ChangeShapes Go.WideShapes
variable {A:Amb} {P:Program} {C:Ctx} {w:World} {H:Type} {enc:TypeId×Value→H} {sp:Nat→Bool} {Z:Nat→Prop} {h:Array Obj}
def Ty.ok:(t:Ty)→t.den→Prop
 |.int k,x=>k.min≤x∧x≤k.max
 |.str,x=>x.length≤room∧∀c,c∈x→0≤c∧c≤255
 |.sl _ e t,l=>l.length*e≤room∧l.length≤room∧∀x,x∈l→t.ok x
 |.st t,x=>t.ok x
 |.pair a b,x=>a.ok x.1∧b.ok x.2
 |.arr n t,l=>l.length=n∧∀x,x∈l→t.ok x
 |.bool,_|.err,_|.slh _ _,_|.fn _ _,_|.fn2 _ _ _,_|.ptr _,_|.unit,_|.lf _,_=>True
theorem Rep.ok:∀{t:Ty} {cs:List Value} {x:t.den} {fp:List Nat},t.data=true→Rep A P t Z h cs x fp→t.ok x
 |.int k,_,_,_,_,hr=>hr.2.2
 |.bool,_,_,_,_,_=>trivial
 |.unit,_,_,_,_,_=>trivial
 |.str,_,_,_,_,hr=>by
  obtain⟨_,s,_,rfl,h3⟩:=hr;refine⟨?_,fun c hc=>?_⟩
  ·simpa[a2c] using h3
  ·simp only[a2c,List.mem_map] at hc;obtain⟨b,_,rfl⟩:=hc;have:=b.toNat_lt;omega
 |.sl .imm e t,_,x,_,hd,hr=>by
  obtain⟨a,n,cap,_,_,rfl,_,h3,h4,h5⟩:=hr;refine⟨h3,h4,fun y hy=>?_⟩;rcases h5 with rfl|⟨ad,cells,_,_,_,h6⟩
  ·simp at hy
  ·obtain⟨i,hi,rfl⟩:=Bf hy;exact Rep.ok (t:=t) (by simpa[Ty.data] using hd) (h6 i hi)
 |.st t,_,_,_,hd,hr=>Rep.ok (t:=t) (by simpa[Ty.data] using hd) hr
 |.pair a b,_,_,_,hd,hr=>by
  simp only[Ty.data,Af] at hd;obtain⟨c1,c2,f1,f2,_,_,h1,h2⟩:=hr;exact⟨Rep.ok hd.1 h1,Rep.ok hd.2 h2⟩
 |.arr n t,_,_,_,hd,hr=>by
  obtain⟨_,_,h1,_,h2⟩:=hr;refine⟨h1,fun y hy=>?_⟩;obtain⟨i,hi,rfl⟩:=Bf hy;exact Rep.ok (t:=t) (by simpa[Ty.data] using hd) (h2 i hi)
 |.sl .own e t,_,_,_,hd,_=>by simp[Ty.data] at hd
 |.sl .hole e t,_,_,_,hd,_=>by simp[Ty.data] at hd
 |.err,_,_,_,hd,_=>by simp[Ty.data] at hd
 |.slh _ _,_,_,_,hd,_=>by simp[Ty.data] at hd
 |.fn _ _,_,_,_,hd,_=>by simp[Ty.data] at hd
 |.fn2 _ _ _,_,_,_,hd,_=>by simp[Ty.data] at hd
 |.ptr _,_,_,_,hd,_=>by simp[Ty.data] at hd
 |.lf _,_,_,_,hd,_=>by simp[Ty.data] at hd
theorem f4b{t:TypeId}{ty:Ty}{v:Value}{r:Reach}{base:Nat}(ht:TyFact P C t ty)(hd:ty.data=true)(hv:BY P w r base t v):VC ty v v.cells.toList:=by
 obtain⟨i,d,_,hu,_,hk,_⟩:=ht.ex;unfold VC;cases ty with
 |st p =>
  cases d <;> simp only[a7i] at hk;simp only[BY,hu] at hv;obtain⟨cs,rfl,_⟩:=hv;simp[Ty.agg,Cz]
 |arr n te =>
  cases d <;> simp only[a7i] at hk;simp only[BY,hu] at hv;obtain⟨cs,rfl,_⟩:=hv;simp[Ty.agg,Cz]
 |int k =>
  cases d <;> simp only[a7i] at hk;simp only[BY,hu,Ib] at hv;cases v <;> simp_all [Cell.ok,Cz,Ty.agg]
 |bool =>
  cases d <;> simp only[a7i] at hk;simp only[BY,hu,Ib] at hv;cases v <;> simp_all [Cell.ok,Cz,Ty.agg]
 |str =>
  cases d <;> simp only[a7i] at hk;obtain⟨s,rfl⟩:=okWide_string hu hv;simp[Cz,Ty.agg]
 |sl m e te =>
  cases d <;> simp only[a7i] at hk;obtain⟨a,n,cap,rfl⟩:=okWide_slice hu hv;simp[Cz,Ty.agg]
 |unit=>cases d <;> simp only[a7i] at hk
 |pair a b=>cases d <;> simp only[a7i] at hk
 |_=>simp[Ty.data] at hd
def c4q:(tys:List Ty)→a3a (tys.map PS.val)→Prop
 |[],_=>True
 |t::ts,x=>t.ok x.1∧c4q ts x.2
def c3t(C:Ctx):List TypeId→List Ty→Prop
 |[],[]=>True
 |t::ts,ty::tys=>C.ty t=some ty∧ty.data=true∧c3t C ts tys
 |_,_=>False
theorem c5j(htab:a3c P C){r:Reach}{base:Nat}:∀(ts:List TypeId) (tys:List Ty) (vs:List Value) (ds:List (DataW H)) (ps:List MemPlace),c3t C ts tys →
  (∀(j:Nat) t v,ts[j]?=some t→vs[j]?=some v→BY P w r base t v)→Bj enc P w 0 sp true ts vs ds ps→(Dy P ts ds).all (·≤reachBytes)=true →
  ∃x:a3a (tys.map PS.val),a7t A P (fun b=>b<w.heap.size) w.heap (tys.map PS.val) vs x []∧c4q tys x
 |[],[],[],[],_,_,_,_,_=>⟨(),⟨rfl,rfl⟩,trivial⟩
 |t::ts,ty::tys,v::vs,d::ds,ps,hk,hok,htr,hw=>by
  obtain⟨h1,h2,h3⟩:=hk;obtain⟨p,q,⟨fuel,g1⟩,g2,_⟩:=htr;simp only[Dy,List.all_append,Af] at hw;obtain⟨x,hx⟩:=c8o (A:=A) htab fuel ty t _ d p h2 h1 g1 hw.1;obtain⟨y,hy,hyo⟩:=c5j htab ts tys vs ds q h3 (fun j t v=>hok (j+1) t v) g2 hw.2;exact⟨(x,y),⟨v,vs,_,[],[],rfl,f4b (htab _ _ h1) h2 (hok 0 t v rfl rfl),hx,hy,rfl⟩,Rep.ok h2 hx,hyo⟩
 |[],[],_::_,_,_,_,_,htr,_=>by simp[Bj] at htr
 |[],[],[],_::_,_,_,_,htr,_=>by simp[Bj] at htr
 |_::_,_::_,[],_,_,_,_,htr,_=>by simp[Bj] at htr
 |_::_,_::_,_::_,[],_,_,_,htr,_=>by simp[Bj] at htr
 |[],_::_,_,_,_,hk,_,_,_=>by simp[c3t] at hk
 |_::_,[],_,_,_,hk,_,_,_=>by simp[c3t] at hk
theorem d7o(hl:laidOutB P=true){W':World}(hb:Below w.heap.size w W'):∀(ts:List TypeId) (vs:List Value) (ds:List (DataW H)) (ps:List MemPlace),(∀t,t∈ts→P.readableRec t=true∧t<P.types.size) →
  Bj enc P w 0 (fun _=>true) true ts vs ds ps→(∀x,x∈ps→x.block<w.heap.size)→Bj enc P W' 0 (fun b=>decide (b<w.heap.size)) true ts vs ds ps
 |[],[],[],_,_,htr,_=>htr
 |t::ts,v::vs,d::ds,ps,hr,htr,hlt=>by
  obtain⟨p,q,g1,g2,rfl⟩:=htr;obtain⟨h1,h2⟩:=hr t List.mem_cons_self;exact⟨p,q,Below.trod hl h1 h2 g1 hb fun x hx=>hlt x (List.mem_append_left _ hx),d7o hl hb ts vs ds q (fun t ht=>hr t (List.mem_cons_of_mem _ ht)) g2 fun x hx=>hlt x (List.mem_append_right _ hx),rfl⟩
 |[],_::_,_,_,_,htr,_=>by simp[Bj] at htr
 |[],[],_::_,_,_,htr,_=>by simp[Bj] at htr
 |_::_,[],_,_,_,htr,_=>by simp[Bj] at htr
 |_::_,_::_,[],_,_,htr,_=>by simp[Bj] at htr
theorem b5y{held:Bool}{b:Nat}:∀(ts:List TypeId) (vs:List Value) (ds:List (DataW H)) (ps:List MemPlace),Bj enc P w b sp held ts vs ds ps→ds.length=ts.length
 |[],[],[],_,_=>rfl
 |t::ts,v::vs,d::ds,ps,htr=>by
  obtain⟨p,q,g1,g2,rfl⟩:=htr;simp[b5y ts vs ds q g2]
 |[],_::_,_,_,htr=>by simp[Bj] at htr
 |[],[],_::_,_,htr=>by simp[Bj] at htr
 |_::_,[],_,_,htr=>by simp[Bj] at htr
 |_::_,_::_,[],_,htr=>by simp[Bj] at htr
end Go.Rb
