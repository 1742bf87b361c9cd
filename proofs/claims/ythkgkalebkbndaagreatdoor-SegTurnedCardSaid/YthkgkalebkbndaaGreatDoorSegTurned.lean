/- 'SegTurned' returns true for every input, and each argument reads behind the call as it read before; the listed package-level errors are as the program's text lays them. -/
import Derived.Test.YthkgkalebkbndaaGreatDoorLawB
import Derived.Test.YthkgkalebkbndaaGreatDoorLawG
import Derived.Test.YthkgkalebkbndaaGreatDoorLawC
import Derived.Test.YthkgkalebkbndaaGreatDoorCards
import Derived.Test.YthkgkalebkbndaaGreatDoorTie
import Derived.SevenTiedAt
set_option autoImplicit false
set_option linter.unusedVariables false
set_option linter.unusedSimpArgs false
open Option.some renaming inj->Ai
namespace Go.Proofs.YthkgkalebkbndaaGreatDoor
open Go.ChangeShapes Go.WideShapes Go.ChangeAt Go.RowKit Go.Rb Go.Rb.R5
theorem d3i(x:a2o ([.sl .imm 1 (.int .u8),.int .u8,.int .u8,.int .u8,.arr 4 (.int .u16),.arr 4 (.int .u8)].map PS.val))(hx:d8g [.sl .imm 1 (.int .u8),.int .u8,.int .u8,.int .u8,.arr 4 (.int .u16),.arr 4 (.int .u8)] x):∃n y,a3s n x=some y∧y.1.1=true:=by
 obtain⟨b,v,p,a,wh,wi,u⟩:=x;obtain⟨⟨_,_,h1⟩,h2,h3,h4,⟨h5,h6⟩,⟨h7,h8⟩,_⟩:=hx;exact d6t h1 h2 h3 h4 h5 h6 h7 h8
theorem b7c : Rows.segTurnedRow.laid = (("errors.errorType", rawD) :: b7d.map fun x => (x.1, d0c "*errors.errorString" x.2)) := by kernel_rfl
set_option maxRecDepth 100000 in
theorem d0u(os:Os)(started:os.Started)(H:Type)(enc:TypeId×Value→H) :
  ReturnsInHanded {} Tryz.checked os 9 .any (fun w args=>(Rows.segTurnedSpec.pre enc Tryz.prog Tryz.f9 Rows.segTurnedRow.domain false w args∧laidMetH Tryz.prog Rows.segTurnedRow.laid w)∧sizedMet enc Tryz.prog Tryz.f9 (OpenSpec.ofChange Rows.segTurnedSpec) false w args)
   (Rows.segTurnedSpec.post enc Tryz.prog Tryz.f9 false true false false) :=
 c1w (C:=c9 0) (CK:=Tryz.checked) (G:=a3s) (raws:=raws) (fun W h=>by rw[b7c] at h;exact(b4h h).1) (fun W h=>by rw[b7c] at h;exact e9b (b4h h).2) g5z e7u (g6h rfl) own started (by kernel_rfl) fn9
  (ChangeSpec.witness_at (enc:=enc) (C:=Tryz.checked) (os:=os) (X:=fun w _=>laidMetH Tryz.prog Rows.segTurnedRow.laid w) false (c7i os) #[.slice none 0 0,.int .u8 0,.int .u8 0,.int .u8 0,.agg #[.int .u16 0,.int .u16 0,.int .u16 0,.int .u16 0],.agg #[.int .u8 0,.int .u8 0,.int .u8 0,.int .u8 0]] 8 rfl (by kernel_rfl) (by kernel_rfl) (by kernel_rfl) (by kernel_rfl) (by kernel_rfl) (by rw[b7c];exact e0f os _))
  (by kernel_rfl) (by decide +kernel) (tys:=[.sl .imm 1 (.int .u8),.int .u8,.int .u8,.int .u8,.arr 4 (.int .u16),.arr 4 (.int .u8)]) ⟨rfl,rfl,rfl,rfl,rfl,rfl,rfl,rfl,rfl,rfl,rfl,rfl,trivial⟩ (tab rfl) (fun A hA hR n=>(S9 A ⟨hA,hR⟩ n).of rfl) d3i rfl rfl (by kernel_rfl)
  (fun ds h=>by
   match ds,h with
   |[d1,d2,d3,d4,d5,d6],_=>rfl)
theorem e1u:e5j Tryz.prog 9 Tryz.f9 Rows.segTurnedSpec Rows.segTurnedRow=true:=by kernel_rfl
theorem e3b:e6r Tryz.prog 9 Tryz.f9 Rows.segTurnedSpec Rows.segTurnedRow=true:=by kernel_rfl
theorem e4u:e2x Tryz.prog 9 Tryz.f9 Rows.segTurnedSpec Rows.segTurnedRow=true:=by kernel_rfl
theorem e6k:e5m Tryz.prog 9 Tryz.f9 Rows.segTurnedSpec Rows.segTurnedRow=true:=by kernel_rfl
theorem e3h:e2d Tryz.prog 9 Tryz.f9 Rows.segTurnedSpec Rows.segTurnedRow=true:=by kernel_rfl
theorem e4z:e5u Tryz.prog 9 Tryz.f9 Rows.segTurnedSpec Rows.segTurnedRow=true:=by kernel_rfl
theorem e2o:e3w Tryz.prog 9 Tryz.f9 Rows.segTurnedSpec Rows.segTurnedRow=true:=by kernel_rfl
theorem d5z:joinedFacts Tryz.prog 9 Tryz.f9 Rows.segTurnedSpec Rows.segTurnedRow=true:=e0o e1u e3b e4u e6k e3h e4z e2o
theorem segTurned_row_holds:Rows.SegTurnedSaid :=
 OpenClaim.holds_of_wide 9 Tryz.f9 rfl rfl rfl rfl rfl rfl rfl ⟨rfl,rfl,rfl,rfl,rfl⟩ rfl rfl rfl rfl rfl (by kernel_rfl) fn9 d5z
  (of_decide_eq_true (by kernel_rfl)) (by unfold Func.isWrapper;first|(rw[if_pos (by decide +kernel)];kernel_rfl)|(rw[if_neg (by decide +kernel)];exact⟨rfl,rfl⟩))
  (fun os started H enc _=>d0u os started H enc)
theorem c4o:(Tryz.f9.params.toList.all fun t=>!(Tryz.prog.wantsStandIn t))=true:=by kernel_rfl
theorem d3d:true=Tryz.prog.looks []:=by kernel_rfl
theorem d6i:false=Rows.segTurnedRow.goesBy Tryz.prog:=by kernel_rfl
theorem d6m : Tryz.prog.mainIs = some (true, "25001fc4f88fc3990f4a5ec61b57aab70e4f2d2b102a66536a9f88c6346e4765".toList) := by kernel_rfl
theorem segTurned_holds:Rows.SegTurnedCardSaid :=
 Claim7.holds_tied_plain_at .later [] [.handle, .sentinel, .sentinel, .sentinel, .sentinel, .sentinel, .sentinel, .sentinel, .sentinel, .sentinel] true (true, "25001fc4f88fc3990f4a5ec61b57aab70e4f2d2b102a66536a9f88c6346e4765") true
  segTurned_row_holds (fun _ h=>by cases h) (by kernel_rfl) (fun _ h=>by cases h) segTurned_row_tie rfl ⟨rfl,rfl⟩ d6m rfl
  (fun f fn hf hfn=>by
   obtain rfl:f=9:=Ai ((show Tryz.prog.funcNamed Rows.segTurnedRow.func=some 9 by kernel_rfl).symm.trans hf) |>.symm;obtain rfl:fn=Tryz.f9:=(Ai (fn9.symm.trans hfn)).symm;refine⟨d3d,fun j t ht=>?_⟩;have h1:=List.all_eq_true.1 c4o t (Array.mem_toList_iff.2 (Array.mem_of_getElem? ht));have h2:Tryz.prog.wantsStandIn t=false:=by simpa using h1
   exact h2)
  d6i
#print axioms segTurned_holds
end Go.Proofs.YthkgkalebkbndaaGreatDoor
