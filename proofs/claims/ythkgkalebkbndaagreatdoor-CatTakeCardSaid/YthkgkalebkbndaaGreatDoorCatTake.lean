/- 'CatTake' returns true for every input, and each argument reads behind the call as it read before; the listed package-level errors are as the program's text lays them. -/
import Derived.Test.YthkgkalebkbndaaGreatDoorLawB
import Derived.Test.YthkgkalebkbndaaGreatDoorLawG
import Derived.Test.YthkgkalebkbndaaGreatDoorLawC
import Derived.Test.YthkgkalebkbndaaGreatDoorCards
import Derived.Test.YthkgkalebkbndaaGreatDoorTie
import Derived.SevenTiedAt
set_option autoImplicit false
set_option linter.unusedVariables false
set_option linter.unusedSimpArgs false
open Option.some renaming inj->Ag
namespace Go.Proofs.YthkgkalebkbndaaGreatDoor
open Go.ChangeShapes Go.WideShapes Go.ChangeAt Go.RowKit Go.Rb Go.Rb.R7
theorem d3e(x:a3a ([.sl .imm 1 (.int .u8),.sl .imm 1 (.int .u8),.int .u16,.int .u8].map PS.val))(hx:c4q [.sl .imm 1 (.int .u8),.sl .imm 1 (.int .u8),.int .u16,.int .u8] x):∃n y,a4u n x=some y∧y.1.1=true:=by
 obtain⟨b,l,a,w,u⟩:=x;obtain⟨⟨_,_,h1⟩,⟨_,_,h2⟩,h3,h4,_⟩:=hx;exact d5u h1 h2 h3 h4
theorem c5h : laidMetH Tryz.prog Rows.catTakeRow.laid = laidMet Tryz.prog (b9z.map fun x => (x.1, d3k "*errors.errorString" x.2)) := by
 funext W;unfold laidMetH;rw[show(Rows.catTakeRow.laid.filter fun x=>x.2.handleName?.isSome)=[] by kernel_rfl];rfl
set_option maxRecDepth 100000 in
theorem d0m(os:Os)(started:os.Started)(H:Type)(enc:TypeId×Value→H) :
  ReturnsInHanded {} Tryz.checked os 4 .any (fun w args=>(Rows.catTakeSpec.pre enc Tryz.prog Tryz.f4 Rows.catTakeRow.domain false w args∧laidMetH Tryz.prog Rows.catTakeRow.laid w)∧sizedMet enc Tryz.prog Tryz.f4 (OpenSpec.ofChange Rows.catTakeSpec) false w args)
   (Rows.catTakeSpec.post enc Tryz.prog Tryz.f4 false true false false) :=
 b6o (C:=c4 0) (CK:=Tryz.checked) (G:=a4u) c5h f3d d4y (f3o rfl) own started (by kernel_rfl) fn4
  (ChangeSpec.witness_at (enc:=enc) (C:=Tryz.checked) (os:=os) (X:=fun w _=>laidMetH Tryz.prog Rows.catTakeRow.laid w) false (b8m os) #[.slice none 0 0,.slice none 0 0,.int .u16 0,.int .u8 0] 8 rfl (by kernel_rfl) (by kernel_rfl) (by kernel_rfl) (by kernel_rfl) (by kernel_rfl) (by rw[c5h];exact c6a os _))
  (by kernel_rfl) (by decide +kernel) (tys:=[.sl .imm 1 (.int .u8),.sl .imm 1 (.int .u8),.int .u16,.int .u8]) ⟨rfl,rfl,rfl,rfl,rfl,rfl,rfl,rfl,trivial⟩ (tab rfl) (fun A hA n=>(S4 A hA n).of rfl) d3e rfl rfl (by kernel_rfl)
  (fun ds h=>by
   match ds,h with
   |[d1,d2,d3,d4],_=>rfl)
theorem e6n:d1e Tryz.prog 4 Tryz.f4 Rows.catTakeSpec Rows.catTakeRow=true:=by kernel_rfl
theorem e5o:d1v Tryz.prog 4 Tryz.f4 Rows.catTakeSpec Rows.catTakeRow=true:=by kernel_rfl
theorem e4b:d1g Tryz.prog 4 Tryz.f4 Rows.catTakeSpec Rows.catTakeRow=true:=by kernel_rfl
theorem e5r:d0t Tryz.prog 4 Tryz.f4 Rows.catTakeSpec Rows.catTakeRow=true:=by kernel_rfl
theorem e6z:d2h Tryz.prog 4 Tryz.f4 Rows.catTakeSpec Rows.catTakeRow=true:=by kernel_rfl
theorem e5h:d0z Tryz.prog 4 Tryz.f4 Rows.catTakeSpec Rows.catTakeRow=true:=by kernel_rfl
theorem e6c:d0p Tryz.prog 4 Tryz.f4 Rows.catTakeSpec Rows.catTakeRow=true:=by kernel_rfl
theorem d4e:joinedFacts Tryz.prog 4 Tryz.f4 Rows.catTakeSpec Rows.catTakeRow=true:=c6f e6n e5o e4b e5r e6z e5h e6c
theorem catTake_row_holds:Rows.CatTakeSaid :=
 OpenClaim.holds_of_wide 4 Tryz.f4 rfl rfl rfl rfl rfl rfl rfl ⟨rfl,rfl,rfl,rfl,rfl⟩ rfl rfl rfl rfl rfl (by kernel_rfl) fn4 d4e
  (of_decide_eq_true (by kernel_rfl)) (by unfold Func.isWrapper;first|(rw[if_pos (by decide +kernel)];kernel_rfl)|(rw[if_neg (by decide +kernel)];exact⟨rfl,rfl⟩))
  (fun os started H enc _=>d0m os started H enc)
theorem c4h:(Tryz.f4.params.toList.all fun t=>!(Tryz.prog.wantsStandIn t))=true:=by kernel_rfl
theorem d4s:true=Tryz.prog.looks []:=by kernel_rfl
theorem d8h:false=Rows.catTakeRow.goesBy Tryz.prog:=by kernel_rfl
theorem d8v : Tryz.prog.mainIs = some (true, "25001fc4f88fc3990f4a5ec61b57aab70e4f2d2b102a66536a9f88c6346e4765".toList) := by kernel_rfl
theorem catTake_holds:Rows.CatTakeCardSaid :=
 Claim7.holds_tied_plain_at .later [] [.sentinel, .sentinel, .sentinel, .sentinel, .sentinel, .sentinel, .sentinel, .sentinel] true (true, "25001fc4f88fc3990f4a5ec61b57aab70e4f2d2b102a66536a9f88c6346e4765") true
  catTake_row_holds (fun _ h=>by cases h) (by kernel_rfl) (fun _ h=>by cases h) catTake_row_tie rfl ⟨rfl,rfl⟩ d8v rfl
  (fun f fn hf hfn=>by
   obtain rfl:f=4:=Ag ((show Tryz.prog.funcNamed Rows.catTakeRow.func=some 4 by kernel_rfl).symm.trans hf) |>.symm;obtain rfl:fn=Tryz.f4:=(Ag (fn4.symm.trans hfn)).symm;refine⟨d4s,fun j t ht=>?_⟩;have h1:=List.all_eq_true.1 c4h t (Array.mem_toList_iff.2 (Array.mem_of_getElem? ht));have h2:Tryz.prog.wantsStandIn t=false:=by simpa using h1
   exact h2)
  d8h
#print axioms catTake_holds
end Go.Proofs.YthkgkalebkbndaaGreatDoor
