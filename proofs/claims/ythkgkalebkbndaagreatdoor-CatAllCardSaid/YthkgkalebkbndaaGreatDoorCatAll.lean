/- 'CatAll' returns true for every input, and each argument reads behind the call as it read before; the listed package-level errors are as the program's text lays them. -/
import Derived.Test.YthkgkalebkbndaaGreatDoorLawB
import Derived.Test.YthkgkalebkbndaaGreatDoorLawG
import Derived.Test.YthkgkalebkbndaaGreatDoorLawC
import Derived.Test.YthkgkalebkbndaaGreatDoorCards
import Derived.Test.YthkgkalebkbndaaGreatDoorTie
import Derived.SevenTiedAt
set_option autoImplicit false
set_option linter.unusedVariables false
set_option linter.unusedSimpArgs false
open Option.some renaming inj->Ag
namespace Go.Proofs.YthkgkalebkbndaaGreatDoor
open Go.ChangeShapes Go.WideShapes Go.ChangeAt Go.RowKit Go.Rb Go.Rb.R7
theorem d6i(x:a3a ([.sl .imm 1 (.int .u8)].map PS.val))(hx:c4q [.sl .imm 1 (.int .u8)] x):∃n y,a6a n x=some y∧y.1.1=true:=by
 obtain⟨l,u⟩:=x;obtain⟨⟨_,_,h1⟩,_⟩:=hx;exact e0u h1
theorem c8f : laidMetH Tryz.prog Rows.catAllRow.laid = laidMet Tryz.prog (b9z.map fun x => (x.1, d3k "*errors.errorString" x.2)) := by
 funext W;unfold laidMetH;rw[show(Rows.catAllRow.laid.filter fun x=>x.2.handleName?.isSome)=[] by kernel_rfl];rfl
set_option maxRecDepth 100000 in
theorem d3g(os:Os)(started:os.Started)(H:Type)(enc:TypeId×Value→H) :
  ReturnsInHanded {} Tryz.checked os 3 .any (fun w args=>(Rows.catAllSpec.pre enc Tryz.prog Tryz.f3 Rows.catAllRow.domain false w args∧laidMetH Tryz.prog Rows.catAllRow.laid w)∧sizedMet enc Tryz.prog Tryz.f3 (OpenSpec.ofChange Rows.catAllSpec) false w args)
   (Rows.catAllSpec.post enc Tryz.prog Tryz.f3 false true false false) :=
 b6o (C:=c3 0) (CK:=Tryz.checked) (G:=a6a) c8f f3d d4y (f3o rfl) own started (by kernel_rfl) fn3
  (ChangeSpec.witness_at (enc:=enc) (C:=Tryz.checked) (os:=os) (X:=fun w _=>laidMetH Tryz.prog Rows.catAllRow.laid w) false (b8m os) #[.slice none 0 0] 8 rfl (by kernel_rfl) (by kernel_rfl) (by kernel_rfl) (by kernel_rfl) (by kernel_rfl) (by rw[c8f];exact c6a os _))
  (by kernel_rfl) (by decide +kernel) (tys:=[.sl .imm 1 (.int .u8)]) ⟨rfl,rfl,trivial⟩ (tab rfl) (fun A hA n=>(S3 A hA n).of rfl) d6i rfl rfl (by kernel_rfl)
  (fun ds h=>by
   match ds,h with
   |[d1],_=>rfl)
theorem f0w:d1e Tryz.prog 3 Tryz.f3 Rows.catAllSpec Rows.catAllRow=true:=by kernel_rfl
theorem e9i:d1v Tryz.prog 3 Tryz.f3 Rows.catAllSpec Rows.catAllRow=true:=by kernel_rfl
theorem f2a:d1g Tryz.prog 3 Tryz.f3 Rows.catAllSpec Rows.catAllRow=true:=by kernel_rfl
theorem f1k:d0t Tryz.prog 3 Tryz.f3 Rows.catAllSpec Rows.catAllRow=true:=by kernel_rfl
theorem f0v:d2h Tryz.prog 3 Tryz.f3 Rows.catAllSpec Rows.catAllRow=true:=by kernel_rfl
theorem e8g:d0z Tryz.prog 3 Tryz.f3 Rows.catAllSpec Rows.catAllRow=true:=by kernel_rfl
theorem f0o:d0p Tryz.prog 3 Tryz.f3 Rows.catAllSpec Rows.catAllRow=true:=by kernel_rfl
theorem d5t:joinedFacts Tryz.prog 3 Tryz.f3 Rows.catAllSpec Rows.catAllRow=true:=c6f f0w e9i f2a f1k f0v e8g f0o
theorem catAll_row_holds:Rows.CatAllSaid :=
 OpenClaim.holds_of_wide 3 Tryz.f3 rfl rfl rfl rfl rfl rfl rfl ⟨rfl,rfl,rfl,rfl,rfl⟩ rfl rfl rfl rfl rfl (by kernel_rfl) fn3 d5t
  (of_decide_eq_true (by kernel_rfl)) (by unfold Func.isWrapper;first|(rw[if_pos (by decide +kernel)];kernel_rfl)|(rw[if_neg (by decide +kernel)];exact⟨rfl,rfl⟩))
  (fun os started H enc _=>d3g os started H enc)
theorem c5y:(Tryz.f3.params.toList.all fun t=>!(Tryz.prog.wantsStandIn t))=true:=by kernel_rfl
theorem d8p:true=Tryz.prog.looks []:=by kernel_rfl
theorem e1j:false=Rows.catAllRow.goesBy Tryz.prog:=by kernel_rfl
theorem e0t : Tryz.prog.mainIs = some (true, "25001fc4f88fc3990f4a5ec61b57aab70e4f2d2b102a66536a9f88c6346e4765".toList) := by kernel_rfl
theorem catAll_holds:Rows.CatAllCardSaid :=
 Claim7.holds_tied_plain_at .later [] [.sentinel, .sentinel, .sentinel, .sentinel, .sentinel, .sentinel, .sentinel, .sentinel] true (true, "25001fc4f88fc3990f4a5ec61b57aab70e4f2d2b102a66536a9f88c6346e4765") true
  catAll_row_holds (fun _ h=>by cases h) (by kernel_rfl) (fun _ h=>by cases h) catAll_row_tie rfl ⟨rfl,rfl⟩ e0t rfl
  (fun f fn hf hfn=>by
   obtain rfl:f=3:=Ag ((show Tryz.prog.funcNamed Rows.catAllRow.func=some 3 by kernel_rfl).symm.trans hf) |>.symm;obtain rfl:fn=Tryz.f3:=(Ag (fn3.symm.trans hfn)).symm;refine⟨d8p,fun j t ht=>?_⟩;have h1:=List.all_eq_true.1 c5y t (Array.mem_toList_iff.2 (Array.mem_of_getElem? ht));have h2:Tryz.prog.wantsStandIn t=false:=by simpa using h1
   exact h2)
  e1j
#print axioms catAll_holds
end Go.Proofs.YthkgkalebkbndaaGreatDoor
