/- 'CatWild' returns true for every input, and each argument reads behind the call as it read before; the listed package-level errors are as the program's text lays them. -/
import Derived.Test.YthkgkalebkbndaaGreatDoorLawB
import Derived.Test.YthkgkalebkbndaaGreatDoorLawG
import Derived.Test.YthkgkalebkbndaaGreatDoorLawC
import Derived.Test.YthkgkalebkbndaaGreatDoorCards
import Derived.Test.YthkgkalebkbndaaGreatDoorTie
import Derived.SevenTiedAt
set_option autoImplicit false
set_option linter.unusedVariables false
set_option linter.unusedSimpArgs false
open Option.some renaming inj->Ag
namespace Go.Proofs.YthkgkalebkbndaaGreatDoor
open Go.ChangeShapes Go.WideShapes Go.ChangeAt Go.RowKit Go.Rb Go.Rb.R7
theorem d4w(x:a3a ([.sl .imm 1 (.int .u8),.int .u8,.int .u8,kq1].map PS.val))(hx:c4q [.sl .imm 1 (.int .u8),.int .u8,.int .u8,kq1] x):∃n y,a5c n x=some y∧y.1.1=true:=by
 obtain⟨l,wh,to,r,u⟩:=x;obtain⟨⟨_,_,h1⟩,h2,h3,h4,_⟩:=hx;refine d8e h1 h2 h3 ⟨fun i hi=>?_,fun i hi=>?_,?_,?_,?_⟩
 ·have h:=h4.2.2.2.2.1.2.2 i hi;exact⟨h.1.1,h.1.2.1,h.2.1,h.2.2.1,h.2.2.2.1⟩
 ·have h:=h4.2.2.2.2.2.1.2.2 i hi;exact⟨h.1.1,h.1.2.1,h.2.1,h.2.2.1,h.2.2.2.1⟩
 ·exact h4.2.2.2.2.2.2.1.2.2.1.2
 ·exact h4.2.2.2.2.2.2.1.2.2.1.1
 ·exact h4.2.2.1.2.1
theorem c4p : laidMetH Tryz.prog Rows.catWildRow.laid = laidMet Tryz.prog (b9z.map fun x => (x.1, d3k "*errors.errorString" x.2)) := by
 funext W;unfold laidMetH;rw[show(Rows.catWildRow.laid.filter fun x=>x.2.handleName?.isSome)=[] by kernel_rfl];rfl
set_option maxRecDepth 100000 in
theorem d0a(os:Os)(started:os.Started)(H:Type)(enc:TypeId×Value→H) :
  ReturnsInHanded {} Tryz.checked os 5 .any (fun w args=>(Rows.catWildSpec.pre enc Tryz.prog Tryz.f5 Rows.catWildRow.domain false w args∧laidMetH Tryz.prog Rows.catWildRow.laid w)∧sizedMet enc Tryz.prog Tryz.f5 (OpenSpec.ofChange Rows.catWildSpec) false w args)
   (Rows.catWildSpec.post enc Tryz.prog Tryz.f5 false true false false) :=
 b6o (C:=c5 0) (CK:=Tryz.checked) (G:=a5c) c4p f3d d4y (f3o rfl) own started (by kernel_rfl) fn5
  (ChangeSpec.witness_at (enc:=enc) (C:=Tryz.checked) (os:=os) (X:=fun w _=>laidMetH Tryz.prog Rows.catWildRow.laid w) false (b8m os) #[.slice none 0 0,.int .u8 0,.int .u8 0,.agg #[.int .i64 0,.int .i64 0,.slice none 0 0,.int .i64 0,.int .i64 0,.int .i64 0,.int .i64 0,.slice none 0 0,.slice none 0 0,.slice none 0 0,.bool false,.int .i64 0,.int .i64 0,.string ⟨#[]⟩,.int .i64 0,.int .i64 0,.int .i64 0,.string ⟨#[]⟩,.int .u8 0,.int .i64 0,.slice none 0 0,.int .i64 0,.int .i64 0,.int .i64 0,.int .i64 0,.slice none 0 0,.slice none 0 0,.int .i64 0,.int .i64 0,.slice none 0 0,.int .i64 0,.slice none 0 0,.slice none 0 0,.int .i64 0,.int .i64 0,.string ⟨#[]⟩,.int .i64 0,.int .i64 0,.int .i64 0,.string ⟨#[]⟩,.int .u8 0,.int .i64 0]] 8 rfl (by kernel_rfl) (by kernel_rfl) (by kernel_rfl) (by kernel_rfl) (by kernel_rfl) (by rw[c4p];exact c6a os _))
  (by kernel_rfl) (by decide +kernel) (tys:=[.sl .imm 1 (.int .u8),.int .u8,.int .u8,kq1]) ⟨rfl,rfl,rfl,rfl,rfl,rfl,rfl,rfl,trivial⟩ (tab rfl) (fun A hA n=>(S5 A hA n).of rfl) d4w rfl rfl (by kernel_rfl)
  (fun ds h=>by
   match ds,h with
   |[d1,d2,d3,d4],_=>rfl)
theorem e7f:d1e Tryz.prog 5 Tryz.f5 Rows.catWildSpec Rows.catWildRow=true:=by kernel_rfl
theorem e5a:d1v Tryz.prog 5 Tryz.f5 Rows.catWildSpec Rows.catWildRow=true:=by kernel_rfl
theorem e6i:d1g Tryz.prog 5 Tryz.f5 Rows.catWildSpec Rows.catWildRow=true:=by kernel_rfl
theorem e6f:d0t Tryz.prog 5 Tryz.f5 Rows.catWildSpec Rows.catWildRow=true:=by kernel_rfl
theorem e6t:d2h Tryz.prog 5 Tryz.f5 Rows.catWildSpec Rows.catWildRow=true:=by kernel_rfl
theorem e4i:d0z Tryz.prog 5 Tryz.f5 Rows.catWildSpec Rows.catWildRow=true:=by kernel_rfl
theorem e4u:d0p Tryz.prog 5 Tryz.f5 Rows.catWildSpec Rows.catWildRow=true:=by kernel_rfl
theorem d4x:joinedFacts Tryz.prog 5 Tryz.f5 Rows.catWildSpec Rows.catWildRow=true:=c6f e7f e5a e6i e6f e6t e4i e4u
theorem catWild_row_holds:Rows.CatWildSaid :=
 OpenClaim.holds_of_wide 5 Tryz.f5 rfl rfl rfl rfl rfl rfl rfl ⟨rfl,rfl,rfl,rfl,rfl⟩ rfl rfl rfl rfl rfl (by kernel_rfl) fn5 d4x
  (of_decide_eq_true (by kernel_rfl)) (by unfold Func.isWrapper;first|(rw[if_pos (by decide +kernel)];kernel_rfl)|(rw[if_neg (by decide +kernel)];exact⟨rfl,rfl⟩))
  (fun os started H enc _=>d0a os started H enc)
theorem c4k:(Tryz.f5.params.toList.all fun t=>!(Tryz.prog.wantsStandIn t))=true:=by kernel_rfl
theorem d3u:true=Tryz.prog.looks []:=by kernel_rfl
theorem d5o:false=Rows.catWildRow.goesBy Tryz.prog:=by kernel_rfl
theorem d6d : Tryz.prog.mainIs = some (true, "25001fc4f88fc3990f4a5ec61b57aab70e4f2d2b102a66536a9f88c6346e4765".toList) := by kernel_rfl
theorem catWild_holds:Rows.CatWildCardSaid :=
 Claim7.holds_tied_plain_at .later [] [.sentinel, .sentinel, .sentinel, .sentinel, .sentinel, .sentinel, .sentinel, .sentinel] true (true, "25001fc4f88fc3990f4a5ec61b57aab70e4f2d2b102a66536a9f88c6346e4765") true
  catWild_row_holds (fun _ h=>by cases h) (by kernel_rfl) (fun _ h=>by cases h) catWild_row_tie rfl ⟨rfl,rfl⟩ d6d rfl
  (fun f fn hf hfn=>by
   obtain rfl:f=5:=Ag ((show Tryz.prog.funcNamed Rows.catWildRow.func=some 5 by kernel_rfl).symm.trans hf) |>.symm;obtain rfl:fn=Tryz.f5:=(Ag (fn5.symm.trans hfn)).symm;refine⟨d3u,fun j t ht=>?_⟩;have h1:=List.all_eq_true.1 c4k t (Array.mem_toList_iff.2 (Array.mem_of_getElem? ht));have h2:Tryz.prog.wantsStandIn t=false:=by simpa using h1
   exact h2)
  d5o
#print axioms catWild_holds
end Go.Proofs.YthkgkalebkbndaaGreatDoor
