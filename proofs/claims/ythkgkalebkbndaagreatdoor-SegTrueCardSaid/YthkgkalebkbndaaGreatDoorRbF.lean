/- Rb: from a contract of a law's function to its row. Own work. -/
import Derived.Test.YthkgkalebkbndaaGreatDoorRbE
import Derived.ChangeShapes
import Derived.SizedLaws
import Derived.ChangeBears2
import Derived.OpenShut
set_option autoImplicit false
set_option linter.unusedVariables false
set_option linter.unusedSimpArgs false
open Bool renaming and_eq_true->Af
open Go.Cell renaming okWide->Je
open Go.DataW renaming TrodAll->Bl,weightsEach->DX
open Go.Value renaming cells->Ch,okWide->Cz
open List renaming getElem_of_mem->B2
namespace Go.Rb
open Go.RowKit Go.ChangeShapes Go.WideShapes
variable {A:Amb} {P:Program} {C:Ctx} {w:World} {H:Type} {enc:TypeId×Value→H} {sp:Nat→Bool} {Z:Nat→Prop} {h:Array Obj}
def Ty.ok:(t:Ty)→t.den→Prop
 |.int k,x=>k.min≤x∧x≤k.max
 |.str,x=>x.length≤room∧∀c,c∈x→0≤c∧c≤255
 |.sl _ e t,l=>l.length*e≤room∧l.length≤room∧∀x,x∈l→t.ok x
 |.st t,x=>t.ok x
 |.pair a b,x=>a.ok x.1∧b.ok x.2
 |.arr n t,l=>l.length=n∧∀x,x∈l→t.ok x
 |.bool,_|.err,_|.slh _ _,_|.fn _ _,_|.fn2 _ _ _,_|.ptr _,_|.unit,_|.lf _,_=>True
theorem Rep.ok:∀{t:Ty} {cs:List Value} {x:t.den} {fp:List Nat},t.data=true→Rep A P t Z h cs x fp→t.ok x
 |.int k,_,_,_,_,hr=>hr.2.2
 |.bool,_,_,_,_,_=>trivial
 |.unit,_,_,_,_,_=>trivial
 |.str,_,_,_,_,hr=>by
  obtain⟨_,s,_,rfl,h3⟩:=hr;refine⟨?_,fun c hc=>?_⟩
  ·simpa[a1o] using h3
  ·simp only[a1o,List.mem_map] at hc;obtain⟨b,_,rfl⟩:=hc;have:=b.toNat_lt;omega
 |.sl .imm e t,_,x,_,hd,hr=>by
  obtain⟨a,n,cap,_,_,rfl,_,h3,h4,h5⟩:=hr;refine⟨h3,h4,fun y hy=>?_⟩;rcases h5 with rfl|⟨ad,cells,_,_,_,h6⟩
  ·simp at hy
  ·obtain⟨i,hi,rfl⟩:=B2 hy;exact Rep.ok (t:=t) (by simpa[Ty.data] using hd) (h6 i hi)
 |.st t,_,_,_,hd,hr=>Rep.ok (t:=t) (by simpa[Ty.data] using hd) hr
 |.pair a b,_,_,_,hd,hr=>by
  simp only[Ty.data,Af] at hd;obtain⟨c1,c2,f1,f2,_,_,h1,h2⟩:=hr;exact⟨Rep.ok hd.1 h1,Rep.ok hd.2 h2⟩
 |.arr n t,_,_,_,hd,hr=>by
  obtain⟨_,_,h1,_,h2⟩:=hr;refine⟨h1,fun y hy=>?_⟩;obtain⟨i,hi,rfl⟩:=B2 hy;exact Rep.ok (t:=t) (by simpa[Ty.data] using hd) (h2 i hi)
 |.sl .own e t,_,_,_,hd,_=>by simp[Ty.data] at hd
 |.sl .hole e t,_,_,_,hd,_=>by simp[Ty.data] at hd
 |.err,_,_,_,hd,_=>by simp[Ty.data] at hd
 |.slh _ _,_,_,_,hd,_=>by simp[Ty.data] at hd
 |.fn _ _,_,_,_,hd,_=>by simp[Ty.data] at hd
 |.fn2 _ _ _,_,_,_,hd,_=>by simp[Ty.data] at hd
 |.ptr _,_,_,_,hd,_=>by simp[Ty.data] at hd
 |.lf _,_,_,_,hd,_=>by simp[Ty.data] at hd
theorem g2a{t:TypeId}{ty:Ty}{v:Value}{r:Reach}{base:Nat}(ht:TyFact P C t ty)(hd:ty.data=true)(hv:Cz P w r base t v):VC ty v v.cells.toList:=by
 obtain⟨i,d,_,hu,_,hk,_⟩:=ht.ex;unfold VC;cases ty with
 |st p =>
  cases d <;> simp only[a7u] at hk;simp only[Cz,hu] at hv;obtain⟨cs,rfl,_⟩:=hv;simp[Ty.agg,Ch]
 |arr n te =>
  cases d <;> simp only[a7u] at hk;simp only[Cz,hu] at hv;obtain⟨cs,rfl,_⟩:=hv;simp[Ty.agg,Ch]
 |int k =>
  cases d <;> simp only[a7u] at hk;simp only[Cz,hu,Je] at hv;cases v <;> simp_all [Cell.ok,Ch,Ty.agg]
 |bool =>
  cases d <;> simp only[a7u] at hk;simp only[Cz,hu,Je] at hv;cases v <;> simp_all [Cell.ok,Ch,Ty.agg]
 |str =>
  cases d <;> simp only[a7u] at hk;obtain⟨s,rfl⟩:=okWide_string hu hv;simp[Ch,Ty.agg]
 |sl m e te =>
  cases d <;> simp only[a7u] at hk;obtain⟨a,n,cap,rfl⟩:=okWide_slice hu hv;simp[Ch,Ty.agg]
 |unit=>cases d <;> simp only[a7u] at hk
 |pair a b=>cases d <;> simp only[a7u] at hk
 |_=>simp[Ty.data] at hd
def d8g:(tys:List Ty)→a2o (tys.map PS.val)→Prop
 |[],_=>True
 |t::ts,x=>t.ok x.1∧d8g ts x.2
def d4u(C:Ctx):List TypeId→List Ty→Prop
 |[],[]=>True
 |t::ts,ty::tys=>C.ty t=some ty∧ty.data=true∧d4u C ts tys
 |_,_=>False
theorem c9g(htab:a3q P C){r:Reach}{base:Nat}:∀(ts:List TypeId) (tys:List Ty) (vs:List Value) (ds:List (DataW H)) (ps:List MemPlace),d4u C ts tys →
  (∀(j:Nat) t v,ts[j]?=some t→vs[j]?=some v→Cz P w r base t v)→Bl enc P w 0 sp true ts vs ds ps→(DX P ts ds).all (·≤reachBytes)=true →
  ∃x:a2o (tys.map PS.val),a7b A P (fun b=>b<w.heap.size) w.heap (tys.map PS.val) vs x []∧d8g tys x
 |[],[],[],[],_,_,_,_,_=>⟨(),⟨rfl,rfl⟩,trivial⟩
 |t::ts,ty::tys,v::vs,d::ds,ps,hk,hok,htr,hw=>by
  obtain⟨h1,h2,h3⟩:=hk;obtain⟨p,q,⟨fuel,g1⟩,g2,_⟩:=htr;simp only[DX,List.all_append,Af] at hw;obtain⟨x,hx⟩:=d3m (A:=A) htab fuel ty t _ d p h2 h1 g1 hw.1;obtain⟨y,hy,hyo⟩:=c9g htab ts tys vs ds q h3 (fun j t v=>hok (j+1) t v) g2 hw.2;exact⟨(x,y),⟨v,vs,_,[],[],rfl,g2a (htab _ _ h1) h2 (hok 0 t v rfl rfl),hx,hy,rfl⟩,Rep.ok h2 hx,hyo⟩
 |[],[],_::_,_,_,_,_,htr,_=>by simp[Bl] at htr
 |[],[],[],_::_,_,_,_,htr,_=>by simp[Bl] at htr
 |_::_,_::_,[],_,_,_,_,htr,_=>by simp[Bl] at htr
 |_::_,_::_,_::_,[],_,_,_,htr,_=>by simp[Bl] at htr
 |[],_::_,_,_,_,hk,_,_,_=>by simp[d4u] at hk
 |_::_,[],_,_,_,hk,_,_,_=>by simp[d4u] at hk
theorem e3d(hl:laidOutB P=true){W':World}(hb:Below w.heap.size w W'):∀(ts:List TypeId) (vs:List Value) (ds:List (DataW H)) (ps:List MemPlace),(∀t,t∈ts→P.readableRec t=true∧t<P.types.size) →
  Bl enc P w 0 (fun _=>true) true ts vs ds ps→(∀x,x∈ps→x.block<w.heap.size)→Bl enc P W' 0 (fun b=>decide (b<w.heap.size)) true ts vs ds ps
 |[],[],[],_,_,htr,_=>htr
 |t::ts,v::vs,d::ds,ps,hr,htr,hlt=>by
  obtain⟨p,q,g1,g2,rfl⟩:=htr;obtain⟨h1,h2⟩:=hr t List.mem_cons_self;exact⟨p,q,Below.trod hl h1 h2 g1 hb fun x hx=>hlt x (List.mem_append_left _ hx),e3d hl hb ts vs ds q (fun t ht=>hr t (List.mem_cons_of_mem _ ht)) g2 fun x hx=>hlt x (List.mem_append_right _ hx),rfl⟩
 |[],_::_,_,_,_,htr,_=>by simp[Bl] at htr
 |[],[],_::_,_,_,htr,_=>by simp[Bl] at htr
 |_::_,[],_,_,_,htr,_=>by simp[Bl] at htr
 |_::_,_::_,[],_,_,htr,_=>by simp[Bl] at htr
theorem b9k{held:Bool}{b:Nat}:∀(ts:List TypeId) (vs:List Value) (ds:List (DataW H)) (ps:List MemPlace),Bl enc P w b sp held ts vs ds ps→ds.length=ts.length
 |[],[],[],_,_=>rfl
 |t::ts,v::vs,d::ds,ps,htr=>by
  obtain⟨p,q,g1,g2,rfl⟩:=htr;simp[b9k ts vs ds q g2]
 |[],_::_,_,_,htr=>by simp[Bl] at htr
 |[],[],_::_,_,htr=>by simp[Bl] at htr
 |_::_,[],_,_,htr=>by simp[Bl] at htr
 |_::_,_::_,[],_,htr=>by simp[Bl] at htr
end Go.Rb
