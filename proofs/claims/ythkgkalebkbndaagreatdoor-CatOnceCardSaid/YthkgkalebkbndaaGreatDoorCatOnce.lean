/- 'CatOnce' returns true for every input, and each argument reads behind the call as it read before; the listed package-level errors are as the program's text lays them. -/
import Derived.Test.YthkgkalebkbndaaGreatDoorLawB
import Derived.Test.YthkgkalebkbndaaGreatDoorLawG
import Derived.Test.YthkgkalebkbndaaGreatDoorLawC
import Derived.Test.YthkgkalebkbndaaGreatDoorCards
import Derived.Test.YthkgkalebkbndaaGreatDoorTie
import Derived.SevenTiedAt
set_option autoImplicit false
set_option linter.unusedVariables false
set_option linter.unusedSimpArgs false
open Option.some renaming inj->Ag
namespace Go.Proofs.YthkgkalebkbndaaGreatDoor
open Go.ChangeShapes Go.WideShapes Go.ChangeAt Go.RowKit Go.Rb Go.Rb.R7
theorem d4n(x:a3a ([.sl .imm 1 (.int .u8)].map PS.val))(hx:c4q [.sl .imm 1 (.int .u8)] x):∃n y,a5a n x=some y∧y.1.1=true:=by
 obtain⟨l,u⟩:=x;obtain⟨⟨_,_,h1⟩,_⟩:=hx;exact d7n h1
theorem c4v : laidMetH Tryz.prog Rows.catOnceRow.laid = laidMet Tryz.prog (b9z.map fun x => (x.1, d3k "*errors.errorString" x.2)) := by
 funext W;unfold laidMetH;rw[show(Rows.catOnceRow.laid.filter fun x=>x.2.handleName?.isSome)=[] by kernel_rfl];rfl
set_option maxRecDepth 100000 in
theorem d0f(os:Os)(started:os.Started)(H:Type)(enc:TypeId×Value→H) :
  ReturnsInHanded {} Tryz.checked os 6 .any (fun w args=>(Rows.catOnceSpec.pre enc Tryz.prog Tryz.f6 Rows.catOnceRow.domain false w args∧laidMetH Tryz.prog Rows.catOnceRow.laid w)∧sizedMet enc Tryz.prog Tryz.f6 (OpenSpec.ofChange Rows.catOnceSpec) false w args)
   (Rows.catOnceSpec.post enc Tryz.prog Tryz.f6 false true false false) :=
 b6o (C:=c6 0) (CK:=Tryz.checked) (G:=a5a) c4v f3d d4y (f3o rfl) own started (by kernel_rfl) fn6
  (ChangeSpec.witness_at (enc:=enc) (C:=Tryz.checked) (os:=os) (X:=fun w _=>laidMetH Tryz.prog Rows.catOnceRow.laid w) false (b8m os) #[.slice none 0 0] 8 rfl (by kernel_rfl) (by kernel_rfl) (by kernel_rfl) (by kernel_rfl) (by kernel_rfl) (by rw[c4v];exact c6a os _))
  (by kernel_rfl) (by decide +kernel) (tys:=[.sl .imm 1 (.int .u8)]) ⟨rfl,rfl,trivial⟩ (tab rfl) (fun A hA n=>(S6 A hA n).of rfl) d4n rfl rfl (by kernel_rfl)
  (fun ds h=>by
   match ds,h with
   |[d1],_=>rfl)
theorem e5g:d1e Tryz.prog 6 Tryz.f6 Rows.catOnceSpec Rows.catOnceRow=true:=by kernel_rfl
theorem e5f:d1v Tryz.prog 6 Tryz.f6 Rows.catOnceSpec Rows.catOnceRow=true:=by kernel_rfl
theorem e6g:d1g Tryz.prog 6 Tryz.f6 Rows.catOnceSpec Rows.catOnceRow=true:=by kernel_rfl
theorem e4w:d0t Tryz.prog 6 Tryz.f6 Rows.catOnceSpec Rows.catOnceRow=true:=by kernel_rfl
theorem e4q:d2h Tryz.prog 6 Tryz.f6 Rows.catOnceSpec Rows.catOnceRow=true:=by kernel_rfl
theorem e6h:d0z Tryz.prog 6 Tryz.f6 Rows.catOnceSpec Rows.catOnceRow=true:=by kernel_rfl
theorem e6q:d0p Tryz.prog 6 Tryz.f6 Rows.catOnceSpec Rows.catOnceRow=true:=by kernel_rfl
theorem d4o:joinedFacts Tryz.prog 6 Tryz.f6 Rows.catOnceSpec Rows.catOnceRow=true:=c6f e5g e5f e6g e4w e4q e6h e6q
theorem catOnce_row_holds:Rows.CatOnceSaid :=
 OpenClaim.holds_of_wide 6 Tryz.f6 rfl rfl rfl rfl rfl rfl rfl ⟨rfl,rfl,rfl,rfl,rfl⟩ rfl rfl rfl rfl rfl (by kernel_rfl) fn6 d4o
  (of_decide_eq_true (by kernel_rfl)) (by unfold Func.isWrapper;first|(rw[if_pos (by decide +kernel)];kernel_rfl)|(rw[if_neg (by decide +kernel)];exact⟨rfl,rfl⟩))
  (fun os started H enc _=>d0f os started H enc)
theorem c3d:(Tryz.f6.params.toList.all fun t=>!(Tryz.prog.wantsStandIn t))=true:=by kernel_rfl
theorem d4v:true=Tryz.prog.looks []:=by kernel_rfl
theorem d6u:false=Rows.catOnceRow.goesBy Tryz.prog:=by kernel_rfl
theorem d7s : Tryz.prog.mainIs = some (true, "25001fc4f88fc3990f4a5ec61b57aab70e4f2d2b102a66536a9f88c6346e4765".toList) := by kernel_rfl
theorem catOnce_holds:Rows.CatOnceCardSaid :=
 Claim7.holds_tied_plain_at .later [] [.sentinel, .sentinel, .sentinel, .sentinel, .sentinel, .sentinel, .sentinel, .sentinel] true (true, "25001fc4f88fc3990f4a5ec61b57aab70e4f2d2b102a66536a9f88c6346e4765") true
  catOnce_row_holds (fun _ h=>by cases h) (by kernel_rfl) (fun _ h=>by cases h) catOnce_row_tie rfl ⟨rfl,rfl⟩ d7s rfl
  (fun f fn hf hfn=>by
   obtain rfl:f=6:=Ag ((show Tryz.prog.funcNamed Rows.catOnceRow.func=some 6 by kernel_rfl).symm.trans hf) |>.symm;obtain rfl:fn=Tryz.f6:=(Ag (fn6.symm.trans hfn)).symm;refine⟨d4v,fun j t ht=>?_⟩;have h1:=List.all_eq_true.1 c3d t (Array.mem_toList_iff.2 (Array.mem_of_getElem? ht));have h2:Tryz.prog.wantsStandIn t=false:=by simpa using h1
   exact h2)
  d6u
#print axioms catOnce_holds
end Go.Proofs.YthkgkalebkbndaaGreatDoor
