/- Plain law: which segments may be, some of them. Own work. -/
import Derived.Test.YthkgkalebkbndaaGreatDoorLawB
import Derived.Test.YthkgkalebkbndaaGreatDoorLawC
import Derived.Test.YthkgkalebkbndaaGreatDoorCards
import Derived.Test.YthkgkalebkbndaaGreatDoorTie
import Derived.SevenTiedAt
set_option autoImplicit false
set_option linter.unusedVariables false
set_option linter.unusedSimpArgs false
namespace Go.Rb.R5
open Go.Rb
theorem c4z:a3f 100 ()=some ((true,()),()):=by decide +kernel
theorem c3p:∃n y,a3f n ()=some y∧y.1.1=true:=⟨100,_,c4z,rfl⟩
end Go.Rb.R5

namespace Go.Proofs.YthkgkalebkbndaaGreatDoor
open Go.ChangeShapes Go.WideShapes Go.ChangeAt Go.RowKit Go.Rb Go.Rb.R5
theorem c0p(x:a1s ([].map PS.val))(hx:d0d [] x):∃n y,a3f n x=some y∧y.1.1=true:=by
 exact c3p
theorem a9k : Rows.segFormsRow.laid = (("errors.errorType", rawD) :: b0e.map fun x => (x.1, c0w "*errors.errorString" x.2)) := by kernel_rfl
set_option maxRecDepth 100000 in
theorem b9y(os:Os)(started:os.Started)(H:Type)(enc:TypeId×Value→H) :
  ReturnsInHanded {} Tryz.checked os 11 .any (fun w args=>(Rows.segFormsSpec.pre enc Tryz.prog Tryz.f11 Rows.segFormsRow.domain false w args∧laidMetH Tryz.prog Rows.segFormsRow.laid w)∧sizedMet enc Tryz.prog Tryz.f11 (OpenSpec.ofChange Rows.segFormsSpec) false w args)
   (Rows.segFormsSpec.post enc Tryz.prog Tryz.f11 false true false false) :=
 c5k (C:=c11 0) (CK:=Tryz.checked) (G:=a3f) (raws:=raws) (fun W h=>by rw[a9k] at h;exact(c1r h).1) (fun W h=>by rw[a9k] at h;exact e1o (c1r h).2) e6f e2d (e7g rfl) own started (by kernel_rfl) fn11
  (ChangeSpec.witness_at (enc:=enc) (C:=Tryz.checked) (os:=os) (X:=fun w _=>laidMetH Tryz.prog Rows.segFormsRow.laid w) false (c6j os) #[] 8 rfl (by kernel_rfl) (by kernel_rfl) (by kernel_rfl) (by kernel_rfl) (by kernel_rfl) (by rw[a9k];exact d9a os _))
  (by kernel_rfl) (by decide +kernel) (tys:=[]) trivial (tab rfl) (fun A hA hR n=>(S11 A ⟨hA,hR⟩ n).of rfl) c0p rfl rfl (by kernel_rfl)
  (fun ds h=>by
   match ds,h with
   |[],_=>rfl)
theorem c7x:d6u Tryz.prog 11 Tryz.f11 Rows.segFormsSpec Rows.segFormsRow=true:=by kernel_rfl
theorem c8y:d6v Tryz.prog 11 Tryz.f11 Rows.segFormsSpec Rows.segFormsRow=true:=by kernel_rfl
theorem c9w:d5v Tryz.prog 11 Tryz.f11 Rows.segFormsSpec Rows.segFormsRow=true:=by kernel_rfl
theorem c8p:d4b Tryz.prog 11 Tryz.f11 Rows.segFormsSpec Rows.segFormsRow=true:=by kernel_rfl
theorem c8e:d6n Tryz.prog 11 Tryz.f11 Rows.segFormsSpec Rows.segFormsRow=true:=by kernel_rfl
theorem c9p:d6q Tryz.prog 11 Tryz.f11 Rows.segFormsSpec Rows.segFormsRow=true:=by kernel_rfl
theorem c9v:d6i Tryz.prog 11 Tryz.f11 Rows.segFormsSpec Rows.segFormsRow=true:=by kernel_rfl
theorem c0o:joinedFacts Tryz.prog 11 Tryz.f11 Rows.segFormsSpec Rows.segFormsRow=true:=d9d c7x c8y c9w c8p c8e c9p c9v
theorem segForms_row_holds:Rows.SegFormsSaid :=
 OpenClaim.holds_of_wide 11 Tryz.f11 rfl rfl rfl rfl rfl rfl rfl ⟨rfl,rfl,rfl,rfl,rfl⟩ rfl rfl rfl rfl rfl (by kernel_rfl) fn11 c0o
  (of_decide_eq_true (by kernel_rfl)) (by unfold Func.isWrapper;first|(rw[if_pos (by decide +kernel)];kernel_rfl)|(rw[if_neg (by decide +kernel)];exact⟨rfl,rfl⟩))
  (fun os started H enc _=>b9y os started H enc)
theorem b4u:(Tryz.f11.params.toList.all fun t=>!(Tryz.prog.wantsStandIn t))=true:=by kernel_rfl
theorem c0v:true=Tryz.prog.looks []:=by kernel_rfl
theorem c2p:false=Rows.segFormsRow.goesBy Tryz.prog:=by kernel_rfl
theorem c2z : Tryz.prog.mainIs = some (true, "25001fc4f88fc3990f4a5ec61b57aab70e4f2d2b102a66536a9f88c6346e4765".toList) := by kernel_rfl
theorem segForms_holds:Rows.SegFormsCardSaid :=
 Claim7.holds_tied_plain_at .later [] [.handle, .sentinel, .sentinel, .sentinel, .sentinel, .sentinel, .sentinel, .sentinel, .sentinel, .sentinel] true (true, "25001fc4f88fc3990f4a5ec61b57aab70e4f2d2b102a66536a9f88c6346e4765") true
  segForms_row_holds (fun _ h=>by cases h) (by kernel_rfl) (fun _ h=>by cases h) segForms_row_tie rfl ⟨rfl,rfl⟩ c2z rfl
  (fun f fn hf hfn=>by
   obtain rfl:f=11:=Option.some.inj ((show Tryz.prog.funcNamed Rows.segFormsRow.func=some 11 by kernel_rfl).symm.trans hf) |>.symm
   obtain rfl:fn=Tryz.f11:=(Option.some.inj (fn11.symm.trans hfn)).symm
   refine⟨c0v,fun j t ht=>?_⟩
   have h1:=List.all_eq_true.1 b4u t (Array.mem_toList_iff.2 (Array.mem_of_getElem? ht))
   have h2:Tryz.prog.wantsStandIn t=false:=by simpa using h1
   exact h2)
  c2p
#print axioms segForms_holds
end Go.Proofs.YthkgkalebkbndaaGreatDoor
