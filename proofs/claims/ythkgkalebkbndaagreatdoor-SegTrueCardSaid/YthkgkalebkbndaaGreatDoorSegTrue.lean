/- 'SegTrue' returns true for every input, and each argument reads behind the call as it read before; the listed package-level errors are as the program's text lays them. -/
import Derived.Test.YthkgkalebkbndaaGreatDoorLawB
import Derived.Test.YthkgkalebkbndaaGreatDoorLawG
import Derived.Test.YthkgkalebkbndaaGreatDoorLawC
import Derived.Test.YthkgkalebkbndaaGreatDoorCards
import Derived.Test.YthkgkalebkbndaaGreatDoorTie
import Derived.SevenTiedAt
set_option autoImplicit false
set_option linter.unusedVariables false
set_option linter.unusedSimpArgs false
open Option.some renaming inj->Ai
namespace Go.Proofs.YthkgkalebkbndaaGreatDoor
open Go.ChangeShapes Go.WideShapes Go.ChangeAt Go.RowKit Go.Rb Go.Rb.R5
theorem e1k(x:a2o ([.sl .imm 1 (.int .u8),.int .u8,.arr 3 (.int .u16),.arr 3 (.int .u8)].map PS.val))(hx:d8g [.sl .imm 1 (.int .u8),.int .u8,.arr 3 (.int .u16),.arr 3 (.int .u8)] x):∃n y,a5e n x=some y∧y.1.1=true:=by
 obtain⟨b,a,wh,wi,u⟩:=x;obtain⟨⟨_,_,h1⟩,h2,⟨h5,h6⟩,⟨h7,h8⟩,_⟩:=hx;exact e5k h1 h2 h5 h6 h7 h8
theorem c1a : Rows.segTrueRow.laid = (("errors.errorType", rawD) :: b7d.map fun x => (x.1, d0c "*errors.errorString" x.2)) := by kernel_rfl
set_option maxRecDepth 100000 in
theorem d6o(os:Os)(started:os.Started)(H:Type)(enc:TypeId×Value→H) :
  ReturnsInHanded {} Tryz.checked os 10 .any (fun w args=>(Rows.segTrueSpec.pre enc Tryz.prog Tryz.f10 Rows.segTrueRow.domain false w args∧laidMetH Tryz.prog Rows.segTrueRow.laid w)∧sizedMet enc Tryz.prog Tryz.f10 (OpenSpec.ofChange Rows.segTrueSpec) false w args)
   (Rows.segTrueSpec.post enc Tryz.prog Tryz.f10 false true false false) :=
 c1w (C:=c10 0) (CK:=Tryz.checked) (G:=a5e) (raws:=raws) (fun W h=>by rw[c1a] at h;exact(b4h h).1) (fun W h=>by rw[c1a] at h;exact e9b (b4h h).2) g5z e7u (g6h rfl) own started (by kernel_rfl) fn10
  (ChangeSpec.witness_at (enc:=enc) (C:=Tryz.checked) (os:=os) (X:=fun w _=>laidMetH Tryz.prog Rows.segTrueRow.laid w) false (c7i os) #[.slice none 0 0,.int .u8 0,.agg #[.int .u16 0,.int .u16 0,.int .u16 0],.agg #[.int .u8 0,.int .u8 0,.int .u8 0]] 8 rfl (by kernel_rfl) (by kernel_rfl) (by kernel_rfl) (by kernel_rfl) (by kernel_rfl) (by rw[c1a];exact e0f os _))
  (by kernel_rfl) (by decide +kernel) (tys:=[.sl .imm 1 (.int .u8),.int .u8,.arr 3 (.int .u16),.arr 3 (.int .u8)]) ⟨rfl,rfl,rfl,rfl,rfl,rfl,rfl,rfl,trivial⟩ (tab rfl) (fun A hA hR n=>(S10 A ⟨hA,hR⟩ n).of rfl) e1k rfl rfl (by kernel_rfl)
  (fun ds h=>by
   match ds,h with
   |[d1,d2,d3,d4],_=>rfl)
theorem f5d:e5j Tryz.prog 10 Tryz.f10 Rows.segTrueSpec Rows.segTrueRow=true:=by kernel_rfl
theorem f3e:e6r Tryz.prog 10 Tryz.f10 Rows.segTrueSpec Rows.segTrueRow=true:=by kernel_rfl
theorem f4f:e2x Tryz.prog 10 Tryz.f10 Rows.segTrueSpec Rows.segTrueRow=true:=by kernel_rfl
theorem f2r:e5m Tryz.prog 10 Tryz.f10 Rows.segTrueSpec Rows.segTrueRow=true:=by kernel_rfl
theorem f5f:e2d Tryz.prog 10 Tryz.f10 Rows.segTrueSpec Rows.segTrueRow=true:=by kernel_rfl
theorem f3c:e5u Tryz.prog 10 Tryz.f10 Rows.segTrueSpec Rows.segTrueRow=true:=by kernel_rfl
theorem f4a:e3w Tryz.prog 10 Tryz.f10 Rows.segTrueSpec Rows.segTrueRow=true:=by kernel_rfl
theorem d8w:joinedFacts Tryz.prog 10 Tryz.f10 Rows.segTrueSpec Rows.segTrueRow=true:=e0o f5d f3e f4f f2r f5f f3c f4a
theorem segTrue_row_holds:Rows.SegTrueSaid :=
 OpenClaim.holds_of_wide 10 Tryz.f10 rfl rfl rfl rfl rfl rfl rfl ⟨rfl,rfl,rfl,rfl,rfl⟩ rfl rfl rfl rfl rfl (by kernel_rfl) fn10 d8w
  (of_decide_eq_true (by kernel_rfl)) (by unfold Func.isWrapper;first|(rw[if_pos (by decide +kernel)];kernel_rfl)|(rw[if_neg (by decide +kernel)];exact⟨rfl,rfl⟩))
  (fun os started H enc _=>d6o os started H enc)
theorem c9c:(Tryz.f10.params.toList.all fun t=>!(Tryz.prog.wantsStandIn t))=true:=by kernel_rfl
theorem e0y:true=Tryz.prog.looks []:=by kernel_rfl
theorem e5f:false=Rows.segTrueRow.goesBy Tryz.prog:=by kernel_rfl
theorem e3e : Tryz.prog.mainIs = some (true, "25001fc4f88fc3990f4a5ec61b57aab70e4f2d2b102a66536a9f88c6346e4765".toList) := by kernel_rfl
theorem segTrue_holds:Rows.SegTrueCardSaid :=
 Claim7.holds_tied_plain_at .later [] [.handle, .sentinel, .sentinel, .sentinel, .sentinel, .sentinel, .sentinel, .sentinel, .sentinel, .sentinel] true (true, "25001fc4f88fc3990f4a5ec61b57aab70e4f2d2b102a66536a9f88c6346e4765") true
  segTrue_row_holds (fun _ h=>by cases h) (by kernel_rfl) (fun _ h=>by cases h) segTrue_row_tie rfl ⟨rfl,rfl⟩ e3e rfl
  (fun f fn hf hfn=>by
   obtain rfl:f=10:=Ai ((show Tryz.prog.funcNamed Rows.segTrueRow.func=some 10 by kernel_rfl).symm.trans hf) |>.symm;obtain rfl:fn=Tryz.f10:=(Ai (fn10.symm.trans hfn)).symm;refine⟨e0y,fun j t ht=>?_⟩;have h1:=List.all_eq_true.1 c9c t (Array.mem_toList_iff.2 (Array.mem_of_getElem? ht));have h2:Tryz.prog.wantsStandIn t=false:=by simpa using h1
   exact h2)
  e5f
#print axioms segTrue_holds
end Go.Proofs.YthkgkalebkbndaaGreatDoor
