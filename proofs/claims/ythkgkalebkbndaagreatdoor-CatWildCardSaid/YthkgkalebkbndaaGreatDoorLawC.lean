/- The package-level errors of the program, as they are laid: what the row's condition gives, and a world that meets it. -/
import Derived.Test.YthkgkalebkbndaaGreatDoorLawB
import Derived.Test.YthkgkalebkbndaaGreatDoorRbH
import Derived.Test.YthkgkalebkbndaaGreatDoorRows
import Derived.ChangeSame
import Derived.JoinedOf
import Derived.JoinedAt
import Derived.JoinedStill
import Derived.RowKit
import Derived.ProofKit
import Derived.OpenShut
import Derived.Stop.Texts
set_option autoImplicit false
set_option linter.unusedVariables false
set_option linter.unusedSimpArgs false
open Bool renaming and_eq_true->Af
open Go.Proofs.Tryz renaming prog->Dn
open Go.World renaming holding->FN
open List renaming mem_cons->A3,not_mem_nil->Bo
open Option.some renaming inj->Ag,injEq->Ad
open Prod.mk renaming injEq->Aj
namespace Go.Rb.R7
open Go.ChangeShapes Go.WideShapes Go.ChangeAt Go.RowKit Go.Rb
theorem own:ownKnob Dn.godebug=none:=by kernel_rfl
def b9z : List (String × List UInt8) := [("rabbet/num.errShort", [101, 110, 100, 115, 32, 116, 111, 111, 32, 115, 111, 111, 110]), ("rabbet/num.errLong", [105, 115, 32, 110, 111, 116, 32, 97, 115, 32, 115, 104, 111, 114, 116, 32, 97, 115, 32, 109, 97, 121, 32, 98, 101]), ("rabbet/schema.errArg", [119, 104, 97, 116, 32, 109, 97, 121, 32, 110, 111, 116, 32, 98, 101]), ("rabbet/schema.errNone", [110, 111, 32, 115, 117, 99, 104, 32, 99, 111, 108, 117, 109, 110]), ("rabbet/schema.errType", [111, 102, 32, 97, 110, 111, 116, 104, 101, 114, 32, 116, 121, 112, 101]), ("rabbet/schema.errExist", [116, 104, 101, 114, 101, 32, 97, 108, 114, 101, 97, 100, 121]), ("rabbet/schema.errFull", [110, 111, 32, 114, 111, 111, 109]), ("rabbet/cat.errForm", [100, 111, 101, 115, 32, 110, 111, 116, 32, 102, 105, 116])]
theorem star : "*" ++ "errors.errorString" = "*errors.errorString" := by decide
theorem rowE (u : TypeId) (h : P.typeName? 3 u = some "*errors.errorString") : u = 413 :=
 typeName_ptr_named (nm := "errors.errorString") (by rw [star]; kernel_rfl) (by kernel_rfl) (by decide) u (by rw [star]; exact h)
theorem f3d : ErrTy P "*errors.errorString" 101 413 432 9 where
 hi:=a9d (by kernel_rfl)
 hrow:=rowE
 hp:=by kernel_rfl
 he:=by
  have h:((P.underlying 432).map fun d=>match d with
   |.struct fs=>(match fs.toList with
    |[f]=>some (f.type,f.offset)
    |_=>none)
   |_=>none)=some (some (9,0)):=by kernel_rfl
  obtain⟨d,hd,h2⟩:=Option.map_eq_some_iff.1 h;cases d with
  |struct fs =>
   obtain⟨l⟩:=fs
   match l,h2 with
   |[f],h2 =>
    simp only[Ad,Aj] at h2;exact⟨f,hd,h2.1,h2.2⟩
   |[],h2=>simp at h2
   |_::_::_,h2=>simp at h2
  |_=>simp at h2
 hs:=by kernel_rfl
 hc:=by kernel_rfl
 hcs:=by kernel_rfl
theorem gN12 : P.globalNamed "rabbet/num.errShort" = some 12 := by kernel_rfl
theorem gT12:(P.globals[12]?).map (·.type)=some 101:=by kernel_rfl
theorem gN13 : P.globalNamed "rabbet/num.errLong" = some 13 := by kernel_rfl
theorem gT13:(P.globals[13]?).map (·.type)=some 101:=by kernel_rfl
theorem gN6 : P.globalNamed "rabbet/schema.errArg" = some 6 := by kernel_rfl
theorem gT6:(P.globals[6]?).map (·.type)=some 101:=by kernel_rfl
theorem gN2 : P.globalNamed "rabbet/schema.errNone" = some 2 := by kernel_rfl
theorem gT2:(P.globals[2]?).map (·.type)=some 101:=by kernel_rfl
theorem gN3 : P.globalNamed "rabbet/schema.errType" = some 3 := by kernel_rfl
theorem gT3:(P.globals[3]?).map (·.type)=some 101:=by kernel_rfl
theorem gN4 : P.globalNamed "rabbet/schema.errExist" = some 4 := by kernel_rfl
theorem gT4:(P.globals[4]?).map (·.type)=some 101:=by kernel_rfl
theorem gN5 : P.globalNamed "rabbet/schema.errFull" = some 5 := by kernel_rfl
theorem gT5:(P.globals[5]?).map (·.type)=some 101:=by kernel_rfl
theorem gN0 : P.globalNamed "rabbet/cat.errForm" = some 0 := by kernel_rfl
theorem gT0:(P.globals[0]?).map (·.type)=some 101:=by kernel_rfl
theorem d4y:∀x,x∈b9z→∀g,P.globalNamed x.1=some g→(P.globals[g]?).map (·.type)=some 101:=by
 intro x hx g hg;simp only[b9z,A3,Bo,or_false] at hx;rcases hx with rfl|rfl|rfl|rfl|rfl|rfl|rfl|rfl
 ·rw [show P.globalNamed "rabbet/num.errShort" = some 12 from gN12] at hg
  obtain rfl:=Ag hg;exact gT12
 ·rw [show P.globalNamed "rabbet/num.errLong" = some 13 from gN13] at hg
  obtain rfl:=Ag hg;exact gT13
 ·rw [show P.globalNamed "rabbet/schema.errArg" = some 6 from gN6] at hg
  obtain rfl:=Ag hg;exact gT6
 ·rw [show P.globalNamed "rabbet/schema.errNone" = some 2 from gN2] at hg
  obtain rfl:=Ag hg;exact gT2
 ·rw [show P.globalNamed "rabbet/schema.errType" = some 3 from gN3] at hg
  obtain rfl:=Ag hg;exact gT3
 ·rw [show P.globalNamed "rabbet/schema.errExist" = some 4 from gN4] at hg
  obtain rfl:=Ag hg;exact gT4
 ·rw [show P.globalNamed "rabbet/schema.errFull" = some 5 from gN5] at hg
  obtain rfl:=Ag hg;exact gT5
 ·rw [show P.globalNamed "rabbet/cat.errForm" = some 0 from gN0] at hg
  obtain rfl:=Ag hg;exact gT0
theorem f3o{C:Ctx}(hC:C.gl=gls):∀g t x,C.gl g=some ⟨t,x⟩→(∃y,y∈b9z∧P.globalNamed y.1=some g)∧(⟨t,x⟩:(t:Ty)×t.den)=⟨.err,UV.sent g⟩:=by
 intro g t x h;rw[hC] at h;have hm:=b4f h;simp only[A3,Bo,or_false,Aj] at hm;rcases hm with⟨rfl,he⟩|⟨rfl,he⟩|⟨rfl,he⟩|⟨rfl,he⟩|⟨rfl,he⟩|⟨rfl,he⟩|⟨rfl,he⟩|⟨rfl,he⟩
 ·exact ⟨⟨("rabbet/cat.errForm", [100, 111, 101, 115, 32, 110, 111, 116, 32, 102, 105, 116]), by simp [b9z], gN0⟩, he⟩
 ·exact ⟨⟨("rabbet/schema.errNone", [110, 111, 32, 115, 117, 99, 104, 32, 99, 111, 108, 117, 109, 110]), by simp [b9z], gN2⟩, he⟩
 ·exact ⟨⟨("rabbet/schema.errType", [111, 102, 32, 97, 110, 111, 116, 104, 101, 114, 32, 116, 121, 112, 101]), by simp [b9z], gN3⟩, he⟩
 ·exact ⟨⟨("rabbet/schema.errExist", [116, 104, 101, 114, 101, 32, 97, 108, 114, 101, 97, 100, 121]), by simp [b9z], gN4⟩, he⟩
 ·exact ⟨⟨("rabbet/schema.errFull", [110, 111, 32, 114, 111, 111, 109]), by simp [b9z], gN5⟩, he⟩
 ·exact ⟨⟨("rabbet/schema.errArg", [119, 104, 97, 116, 32, 109, 97, 121, 32, 110, 111, 116, 32, 98, 101]), by simp [b9z], gN6⟩, he⟩
 ·exact ⟨⟨("rabbet/num.errShort", [101, 110, 100, 115, 32, 116, 111, 111, 32, 115, 111, 111, 110]), by simp [b9z], gN12⟩, he⟩
 ·exact ⟨⟨("rabbet/num.errLong", [105, 115, 32, 110, 111, 116, 32, 97, 115, 32, 115, 104, 111, 114, 116, 32, 97, 115, 32, 109, 97, 121, 32, 98, 101]), by simp [b9z], gN13⟩, he⟩
noncomputable def low:Nat:=(FN P default ⟨#[],#[],[]⟩).heap.size
noncomputable def putE(k:Nat):Obj→Obj
 |.cells _ t frozen=>.cells #[.iface 413 (.pointer (some ⟨low+k,0,none⟩))] t frozen
 |o=>o
noncomputable def b8m(os:Os):World :=
 let w0:=FN P os ⟨#[.cells #[.string { data:=#[101,110,100,115,32,116,111,111,32,115,111,111,110] }] 432,.cells #[.string { data:=#[105,115,32,110,111,116,32,97,115,32,115,104,111,114,116,32,97,115,32,109,97,121,32,98,101] }] 432,.cells #[.string { data:=#[119,104,97,116,32,109,97,121,32,110,111,116,32,98,101] }] 432,.cells #[.string { data:=#[110,111,32,115,117,99,104,32,99,111,108,117,109,110] }] 432,.cells #[.string { data:=#[111,102,32,97,110,111,116,104,101,114,32,116,121,112,101] }] 432,.cells #[.string { data:=#[116,104,101,114,101,32,97,108,114,101,97,100,121] }] 432,.cells #[.string { data:=#[110,111,32,114,111,111,109] }] 432,.cells #[.string { data:=#[100,111,101,115,32,110,111,116,32,102,105,116] }] 432],#[],[]⟩
 { w0 with heap:=((((((((w0.heap.modify 12 (putE 0)).modify 13 (putE 1)).modify 6 (putE 2)).modify 2 (putE 3)).modify 3 (putE 4)).modify 4 (putE 5)).modify 5 (putE 6)).modify 0 (putE 7)) }
theorem c6a (os : Os) (args : Array Value) : laidMet P (b9z.map fun x => (x.1, d3k "*errors.errorString" x.2)) ((b8m os).forCall (fun _ _ => 0) ⟨#[], args, []⟩).memory :=
 laidMet_of_run' 8 (by kernel_rfl) (by kernel_rfl)
def d1e(P:Program)(f:FuncId)(fn:Func)(s:ChangeSpec)(c:OpenClaim):Bool:=(c.wf (OpenSpec.ofChange s)&&laidOutB P&&mapsRowed P&&fn.params.all (P.readableRec ·)&&namedTie P c.named s.vars&&(c.stops==[])&&(P.stops==[])&&(c.knobs==[])&&(P.stopKnobs==[]))
def d1v(P:Program)(f:FuncId)(fn:Func)(s:ChangeSpec)(c:OpenClaim):Bool:=((c.inPlace==P.inPlace f)&&(c.unfollowed==P.unfollowed f)&&(c.recurses==P.recurses f))
def d1g(P:Program)(f:FuncId)(fn:Func)(s:ChangeSpec)(c:OpenClaim):Bool:=(c.named==P.varsNamed f)
def d0t(P:Program)(f:FuncId)(fn:Func)(s:ChangeSpec)(c:OpenClaim):Bool:=((c.maps==(fn.params.toList++s.plain.varTypes P).any (P.mapsRec ·))&&(c.ifaces==(fn.params.toList++s.plain.varTypes P).any (P.ifacesRec ·))&&(c.mapsOut==P.mapsAmong fn.resultTypes.toList)&&(c.loops==(fn.params.toList++s.plain.varTypes P).any (P.loopsFrom ·))&&(c.wideKeys==(fn.params.toList++s.plain.varTypes P++fn.resultTypes.toList).any (P.wideKeysFrom ·))&&s.vars.all (P.varReadable ·)&&fn.resultTypes.all (fun t=>P.readableRec t&&decide (t<P.types.size))&&(c.ifacesOut==fn.resultTypes.toList.any (P.ifacesRec ·))&&(c.loopsOut==fn.resultTypes.toList.any (P.loopsFrom ·)))
def d2h(P:Program)(f:FuncId)(fn:Func)(s:ChangeSpec)(c:OpenClaim):Bool:=((c.plainKeys==P.plainKeys)&&c.shortTexts.isNone&&P.stopsHeard&&P.mayEnter)
def d0z(P:Program)(f:FuncId)(fn:Func)(s:ChangeSpec)(c:OpenClaim):Bool:=((c.lifted==P.liftsFinal)&&(P.make==some c.make))
def d0p(P:Program)(f:FuncId)(fn:Func)(s:ChangeSpec)(c:OpenClaim):Bool:=((c.kinds==(if c.domain.isEmpty then[] else fn.params.toList.map fun t=>match P.underlying t with|some (.int k)=>some k|_=>none))&&(c.pinned==c.pinnedBy)&&(c.veiled==(fn.params.toList++s.plain.varTypes P++fn.resultTypes.toList).any (P.veiledRec ·))&&c.veiledFits P fn.params.toList (fn.params.toList++s.plain.varTypes P++fn.resultTypes.toList))
theorem c6f{P:Program}{f:FuncId}{fn:Func}{s:ChangeSpec}{c:OpenClaim}(h1:d1e P f fn s c=true)(h2:d1v P f fn s c=true)(h3:d1g P f fn s c=true)(h4:d0t P f fn s c=true)(h5:d2h P f fn s c=true)(h6:d0z P f fn s c=true)(h7:d0p P f fn s c=true) :
  joinedFacts P f fn s c=true:=by
 simp only[d1e,d1v,d1g,d0t,d2h,d0z,d0p,Af] at h1 h2 h3 h4 h5 h6 h7;simp only[joinedFacts,Af];simp only[h1,h2,h3,h4,h5,h6,h7,and_self,true_and,and_true];exact h7.1.1.1
end Go.Rb.R7
