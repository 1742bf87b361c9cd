/- 'SegAll' returns true for every input, and each argument reads behind the call as it read before; the listed package-level errors are as the program's text lays them. -/
import Derived.Test.YthkgkalebkbndaaGreatDoorLawB
import Derived.Test.YthkgkalebkbndaaGreatDoorLawG
import Derived.Test.YthkgkalebkbndaaGreatDoorLawC
import Derived.Test.YthkgkalebkbndaaGreatDoorCards
import Derived.Test.YthkgkalebkbndaaGreatDoorTie
import Derived.SevenTiedAt
set_option autoImplicit false
set_option linter.unusedVariables false
set_option linter.unusedSimpArgs false
open Option.some renaming inj->Ai
namespace Go.Proofs.YthkgkalebkbndaaGreatDoor
open Go.ChangeShapes Go.WideShapes Go.ChangeAt Go.RowKit Go.Rb Go.Rb.R5
theorem e4s(x:a2o ([.sl .imm 1 (.int .u8),.int .u8,.int .u8,.int .u8,.st (.pair tI (.pair tI (.pair tI (.pair (.sl .imm 8 tI) (.pair (.sl .imm 8 tI) (.pair (.sl .imm 72 (.st (.pair tI (.pair (.st (.pair tI (.pair tI (.pair .str .unit)))) (.pair (.st (.pair tI (.pair tI (.pair .str .unit)))) .unit))))) (.pair (.sl .imm 24 (.sl .imm 32 (.st (.pair tI (.pair tI (.pair .str .unit)))))) .unit))))))),.sl .imm 1 (.int .u8)].map PS.val))(hx:d8g [.sl .imm 1 (.int .u8),.int .u8,.int .u8,.int .u8,.st (.pair tI (.pair tI (.pair tI (.pair (.sl .imm 8 tI) (.pair (.sl .imm 8 tI) (.pair (.sl .imm 72 (.st (.pair tI (.pair (.st (.pair tI (.pair tI (.pair .str .unit)))) (.pair (.st (.pair tI (.pair tI (.pair .str .unit)))) .unit))))) (.pair (.sl .imm 24 (.sl .imm 32 (.st (.pair tI (.pair tI (.pair .str .unit)))))) .unit))))))),.sl .imm 1 (.int .u8)] x):∃n y,a5t n x=some y∧y.1.1=true:=by
 obtain⟨b,v,p,a,s,h,u⟩:=x;obtain⟨⟨_,_,h1⟩,h2,h3,h4,h5,⟨_,_,h6⟩,_⟩:=hx;have z:=h5.2.2.2.2.2.1.2.1;have c:=h5.2.2.2.2.2.2.1;exact e9i h1 h2 h3 h4 h6 z c.2.1 (fun l hl=>⟨(c.2.2 l hl).2.1,fun v hv=>⟨((c.2.2 l hl).2.2 v hv).1,((c.2.2 l hl).2.2 v hv).2.1,((c.2.2 l hl).2.2 v hv).2.2.1⟩⟩)
theorem c5q : Rows.segAllRow.laid = (("errors.errorType", rawD) :: b7d.map fun x => (x.1, d0c "*errors.errorString" x.2)) := by kernel_rfl
set_option maxRecDepth 100000 in
theorem e1f(os:Os)(started:os.Started)(H:Type)(enc:TypeId×Value→H) :
  ReturnsInHanded {} Tryz.checked os 7 .any (fun w args=>(Rows.segAllSpec.pre enc Tryz.prog Tryz.f7 Rows.segAllRow.domain false w args∧laidMetH Tryz.prog Rows.segAllRow.laid w)∧sizedMet enc Tryz.prog Tryz.f7 (OpenSpec.ofChange Rows.segAllSpec) false w args)
   (Rows.segAllSpec.post enc Tryz.prog Tryz.f7 false true false false) :=
 c1w (C:=c7 0) (CK:=Tryz.checked) (G:=a5t) (raws:=raws) (fun W h=>by rw[c5q] at h;exact(b4h h).1) (fun W h=>by rw[c5q] at h;exact e9b (b4h h).2) g5z e7u (g6h rfl) own started (by kernel_rfl) fn7
  (ChangeSpec.witness_at (enc:=enc) (C:=Tryz.checked) (os:=os) (X:=fun w _=>laidMetH Tryz.prog Rows.segAllRow.laid w) false (c7i os) #[.slice none 0 0,.int .u8 0,.int .u8 0,.int .u8 0,.agg #[.int .i64 0,.int .i64 0,.int .i64 0,.slice none 0 0,.slice none 0 0,.slice none 0 0,.slice none 0 0],.slice none 0 0] 8 rfl (by kernel_rfl) (by kernel_rfl) (by kernel_rfl) (by kernel_rfl) (by kernel_rfl) (by rw[c5q];exact e0f os _))
  (by kernel_rfl) (by decide +kernel) (tys:=[.sl .imm 1 (.int .u8),.int .u8,.int .u8,.int .u8,.st (.pair tI (.pair tI (.pair tI (.pair (.sl .imm 8 tI) (.pair (.sl .imm 8 tI) (.pair (.sl .imm 72 (.st (.pair tI (.pair (.st (.pair tI (.pair tI (.pair .str .unit)))) (.pair (.st (.pair tI (.pair tI (.pair .str .unit)))) .unit))))) (.pair (.sl .imm 24 (.sl .imm 32 (.st (.pair tI (.pair tI (.pair .str .unit)))))) .unit))))))),.sl .imm 1 (.int .u8)]) ⟨rfl,rfl,rfl,rfl,rfl,rfl,rfl,rfl,rfl,rfl,rfl,rfl,trivial⟩ (tab rfl) (fun A hA hR n=>(S7 A ⟨hA,hR⟩ n).of rfl) e4s rfl rfl (by kernel_rfl)
  (fun ds h=>by
   match ds,h with
   |[d1,d2,d3,d4,d5,d6],_=>rfl)
theorem f9d:e5j Tryz.prog 7 Tryz.f7 Rows.segAllSpec Rows.segAllRow=true:=by kernel_rfl
theorem f5w:e6r Tryz.prog 7 Tryz.f7 Rows.segAllSpec Rows.segAllRow=true:=by kernel_rfl
theorem f6m:e2x Tryz.prog 7 Tryz.f7 Rows.segAllSpec Rows.segAllRow=true:=by kernel_rfl
theorem f8a:e5m Tryz.prog 7 Tryz.f7 Rows.segAllSpec Rows.segAllRow=true:=by kernel_rfl
theorem f5u:e2d Tryz.prog 7 Tryz.f7 Rows.segAllSpec Rows.segAllRow=true:=by kernel_rfl
theorem f6j:e5u Tryz.prog 7 Tryz.f7 Rows.segAllSpec Rows.segAllRow=true:=by kernel_rfl
theorem f9v:e3w Tryz.prog 7 Tryz.f7 Rows.segAllSpec Rows.segAllRow=true:=by kernel_rfl
theorem e2e:joinedFacts Tryz.prog 7 Tryz.f7 Rows.segAllSpec Rows.segAllRow=true:=e0o f9d f5w f6m f8a f5u f6j f9v
theorem segAll_row_holds:Rows.SegAllSaid :=
 OpenClaim.holds_of_wide 7 Tryz.f7 rfl rfl rfl rfl rfl rfl rfl ⟨rfl,rfl,rfl,rfl,rfl⟩ rfl rfl rfl rfl rfl (by kernel_rfl) fn7 e2e
  (of_decide_eq_true (by kernel_rfl)) (by unfold Func.isWrapper;first|(rw[if_pos (by decide +kernel)];kernel_rfl)|(rw[if_neg (by decide +kernel)];exact⟨rfl,rfl⟩))
  (fun os started H enc _=>e1f os started H enc)
theorem d0i:(Tryz.f7.params.toList.all fun t=>!(Tryz.prog.wantsStandIn t))=true:=by kernel_rfl
theorem e4b:true=Tryz.prog.looks []:=by kernel_rfl
theorem e8c:false=Rows.segAllRow.goesBy Tryz.prog:=by kernel_rfl
theorem e8x : Tryz.prog.mainIs = some (true, "25001fc4f88fc3990f4a5ec61b57aab70e4f2d2b102a66536a9f88c6346e4765".toList) := by kernel_rfl
theorem segAll_holds:Rows.SegAllCardSaid :=
 Claim7.holds_tied_plain_at .later [] [.handle, .sentinel, .sentinel, .sentinel, .sentinel, .sentinel, .sentinel, .sentinel, .sentinel, .sentinel] true (true, "25001fc4f88fc3990f4a5ec61b57aab70e4f2d2b102a66536a9f88c6346e4765") true
  segAll_row_holds (fun _ h=>by cases h) (by kernel_rfl) (fun _ h=>by cases h) segAll_row_tie rfl ⟨rfl,rfl⟩ e8x rfl
  (fun f fn hf hfn=>by
   obtain rfl:f=7:=Ai ((show Tryz.prog.funcNamed Rows.segAllRow.func=some 7 by kernel_rfl).symm.trans hf) |>.symm;obtain rfl:fn=Tryz.f7:=(Ai (fn7.symm.trans hfn)).symm;refine⟨e4b,fun j t ht=>?_⟩;have h1:=List.all_eq_true.1 d0i t (Array.mem_toList_iff.2 (Array.mem_of_getElem? ht));have h2:Tryz.prog.wantsStandIn t=false:=by simpa using h1
   exact h2)
  e8c
#print axioms segAll_holds
end Go.Proofs.YthkgkalebkbndaaGreatDoor
