/- 'SegBack' returns true for every input, and each argument reads behind the call as it read before; the listed package-level errors are as the program's text lays them. -/
import Derived.Test.YthkgkalebkbndaaGreatDoorLawB
import Derived.Test.YthkgkalebkbndaaGreatDoorLawF
import Derived.Test.YthkgkalebkbndaaGreatDoorLawC
import Derived.Test.YthkgkalebkbndaaGreatDoorCards
import Derived.Test.YthkgkalebkbndaaGreatDoorTie
import Derived.SevenTiedAt
set_option autoImplicit false
set_option linter.unusedVariables false
set_option linter.unusedSimpArgs false
namespace Go.Proofs.YthkgkalebkbndaaGreatDoor
open Go.ChangeShapes Go.WideShapes Go.ChangeAt Go.RowKit Go.Rb Go.Rb.R5
theorem d3r(x:a2q ([.sl .imm 1 (.int .u8),.int .u8,.int .u8,.int .u8,.int .u16,.int .u8].map PS.val))(hx:e6f [.sl .imm 1 (.int .u8),.int .u8,.int .u8,.int .u8,.int .u16,.int .u8] x):∃n y,a4w n x=some y∧y.1.1=true:=by
 obtain⟨b,v,p,a,c,d,u⟩:=x
 obtain⟨⟨_,_,h1⟩,h2,h3,h4,h5,h6,_⟩:=hx
 exact d6s h1 h2 h3 h4 h5 h6
theorem b7s : Rows.segBackRow.laid = (("errors.errorType", rawD) :: b6c.map fun x => (x.1, d1r "*errors.errorString" x.2)) := by kernel_rfl
set_option maxRecDepth 100000 in
theorem d1t(os:Os)(started:os.Started)(H:Type)(enc:TypeId×Value→H) :
  ReturnsInHanded {} Tryz.checked os 8 .any (fun w args=>(Rows.segBackSpec.pre enc Tryz.prog Tryz.f8 Rows.segBackRow.domain false w args∧laidMetH Tryz.prog Rows.segBackRow.laid w)∧sizedMet enc Tryz.prog Tryz.f8 (OpenSpec.ofChange Rows.segBackSpec) false w args)
   (Rows.segBackSpec.post enc Tryz.prog Tryz.f8 false true false false) :=
 d6o (C:=c8 0) (CK:=Tryz.checked) (G:=a4w) (raws:=raws) (fun W h=>by rw[b7s] at h;exact(d2a h).1) (fun W h=>by rw[b7s] at h;exact g1w (d2a h).2) g6a g3g (g6i rfl) own started (by kernel_rfl) fn8
  (ChangeSpec.witness_at (enc:=enc) (C:=Tryz.checked) (os:=os) (X:=fun w _=>laidMetH Tryz.prog Rows.segBackRow.laid w) false (d7b os) #[.slice none 0 0,.int .u8 0,.int .u8 0,.int .u8 0,.int .u16 0,.int .u8 0] 8 rfl (by kernel_rfl) (by kernel_rfl) (by kernel_rfl) (by kernel_rfl) (by kernel_rfl) (by rw[b7s];exact f8a os _))
  (by kernel_rfl) (by decide +kernel) (tys:=[.sl .imm 1 (.int .u8),.int .u8,.int .u8,.int .u8,.int .u16,.int .u8]) ⟨rfl,rfl,rfl,rfl,rfl,rfl,rfl,rfl,rfl,rfl,rfl,rfl,trivial⟩ (tab rfl) (fun A hA hR n=>(S8 A ⟨hA,hR⟩ n).of rfl) d3r rfl rfl (by kernel_rfl)
  (fun ds h=>by
   match ds,h with
   |[d1,d2,d3,d4,d5,d6],_=>rfl)
theorem e7m:f5a Tryz.prog 8 Tryz.f8 Rows.segBackSpec Rows.segBackRow=true:=by kernel_rfl
theorem e8k:f5i Tryz.prog 8 Tryz.f8 Rows.segBackSpec Rows.segBackRow=true:=by kernel_rfl
theorem e7j:f1v Tryz.prog 8 Tryz.f8 Rows.segBackSpec Rows.segBackRow=true:=by kernel_rfl
theorem e9w:f1x Tryz.prog 8 Tryz.f8 Rows.segBackSpec Rows.segBackRow=true:=by kernel_rfl
theorem f0d:f1m Tryz.prog 8 Tryz.f8 Rows.segBackSpec Rows.segBackRow=true:=by kernel_rfl
theorem e8u:f1c Tryz.prog 8 Tryz.f8 Rows.segBackSpec Rows.segBackRow=true:=by kernel_rfl
theorem e7v:f2v Tryz.prog 8 Tryz.f8 Rows.segBackSpec Rows.segBackRow=true:=by kernel_rfl
theorem d4z:joinedFacts Tryz.prog 8 Tryz.f8 Rows.segBackSpec Rows.segBackRow=true:=f7x e7m e8k e7j e9w f0d e8u e7v
theorem segBack_row_holds:Rows.SegBackSaid :=
 OpenClaim.holds_of_wide 8 Tryz.f8 rfl rfl rfl rfl rfl rfl rfl ⟨rfl,rfl,rfl,rfl,rfl⟩ rfl rfl rfl rfl rfl (by kernel_rfl) fn8 d4z
  (of_decide_eq_true (by kernel_rfl)) (by unfold Func.isWrapper;first|(rw[if_pos (by decide +kernel)];kernel_rfl)|(rw[if_neg (by decide +kernel)];exact⟨rfl,rfl⟩))
  (fun os started H enc _=>d1t os started H enc)
theorem c4i:(Tryz.f8.params.toList.all fun t=>!(Tryz.prog.wantsStandIn t))=true:=by kernel_rfl
theorem d4c:true=Tryz.prog.looks []:=by kernel_rfl
theorem d6u:false=Rows.segBackRow.goesBy Tryz.prog:=by kernel_rfl
theorem d9z : Tryz.prog.mainIs = some (true, "25001fc4f88fc3990f4a5ec61b57aab70e4f2d2b102a66536a9f88c6346e4765".toList) := by kernel_rfl
theorem segBack_holds:Rows.SegBackCardSaid :=
 Claim7.holds_tied_plain_at .later [] [.handle, .sentinel, .sentinel, .sentinel, .sentinel, .sentinel, .sentinel, .sentinel, .sentinel, .sentinel] true (true, "25001fc4f88fc3990f4a5ec61b57aab70e4f2d2b102a66536a9f88c6346e4765") true
  segBack_row_holds (fun _ h=>by cases h) (by kernel_rfl) (fun _ h=>by cases h) segBack_row_tie rfl ⟨rfl,rfl⟩ d9z rfl
  (fun f fn hf hfn=>by
   obtain rfl:f=8:=Option.some.inj ((show Tryz.prog.funcNamed Rows.segBackRow.func=some 8 by kernel_rfl).symm.trans hf) |>.symm
   obtain rfl:fn=Tryz.f8:=(Option.some.inj (fn8.symm.trans hfn)).symm
   refine⟨d4c,fun j t ht=>?_⟩
   have h1:=List.all_eq_true.1 c4i t (Array.mem_toList_iff.2 (Array.mem_of_getElem? ht))
   have h2:Tryz.prog.wantsStandIn t=false:=by simpa using h1
   exact h2)
  d6u
#print axioms segBack_holds
end Go.Proofs.YthkgkalebkbndaaGreatDoor
