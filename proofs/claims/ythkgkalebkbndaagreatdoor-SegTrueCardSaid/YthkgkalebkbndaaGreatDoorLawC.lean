/- The package-level errors of the program, as they are laid: what the row's condition gives, and a world that meets it. -/
import Derived.Test.YthkgkalebkbndaaGreatDoorLawB
import Derived.Test.YthkgkalebkbndaaGreatDoorRbH
import Derived.Test.YthkgkalebkbndaaGreatDoorRows
import Derived.ChangeSame
import Derived.JoinedOf
import Derived.JoinedAt
import Derived.JoinedStill
import Derived.RowKit
import Derived.ProofKit
import Derived.OpenShut
import Derived.LaidHandle
import Derived.Stop.Texts
set_option autoImplicit false
set_option linter.unusedVariables false
set_option linter.unusedSimpArgs false
open Bool renaming and_eq_true->Af
open Go.Proofs.Tryz renaming prog->DI
open Go.World renaming holding->GG
open List renaming mem_cons->Az,mem_singleton->B9,not_mem_nil->C6,range->AA
open Option.some renaming inj->Ai,injEq->Ad
open Prod.mk renaming injEq->Ak
namespace Go.Rb.R5
open Go.ChangeShapes Go.WideShapes Go.ChangeAt Go.RowKit Go.Rb
theorem own:ownKnob DI.godebug=none:=by kernel_rfl
def b7d : List (String × List UInt8) := [("rabbet/num.errShort", [101, 110, 100, 115, 32, 116, 111, 111, 32, 115, 111, 111, 110]), ("rabbet/num.errLong", [105, 115, 32, 110, 111, 116, 32, 97, 115, 32, 115, 104, 111, 114, 116, 32, 97, 115, 32, 109, 97, 121, 32, 98, 101]), ("rabbet/nulls.errForm", [105, 115, 32, 110, 111, 116, 32, 111, 102, 32, 115, 111, 32, 109, 97, 110, 121]), ("rabbet/value.errShort", [101, 110, 100, 115, 32, 116, 111, 111, 32, 115, 111, 111, 110]), ("rabbet/delta.errForm", [115, 97, 121, 115, 32, 110, 111, 32, 99, 111, 108, 117, 109, 110]), ("rabbet/dict.errForm", [115, 97, 121, 115, 32, 110, 111, 32, 99, 111, 108, 117, 109, 110]), ("rabbet/pack.errForm", [115, 97, 121, 115, 32, 110, 111, 32, 99, 111, 108, 117, 109, 110]), ("rabbet/plain.errForm", [115, 97, 121, 115, 32, 110, 111, 32, 99, 111, 108, 117, 109, 110]), ("rabbet/rle.errForm", [115, 97, 121, 115, 32, 110, 111, 32, 99, 111, 108, 117, 109, 110])]
theorem star : "*" ++ "errors.errorString" = "*errors.errorString" := by decide
theorem rowE (u : TypeId) (h : P.typeName? 3 u = some "*errors.errorString") : u = 413 :=
 typeName_ptr_named (nm := "errors.errorString") (by rw [star]; kernel_rfl) (by kernel_rfl) (by decide) u (by rw [star]; exact h)
theorem g5z : ErrTy P "*errors.errorString" 101 413 432 9 where
 hi:=a9i (by kernel_rfl)
 hrow:=rowE
 hp:=by kernel_rfl
 he:=by
  have h:((P.underlying 432).map fun d=>match d with
   |.struct fs=>(match fs.toList with
    |[f]=>some (f.type,f.offset)
    |_=>none)
   |_=>none)=some (some (9,0)):=by kernel_rfl
  obtain⟨d,hd,h2⟩:=Option.map_eq_some_iff.1 h;cases d with
  |struct fs =>
   obtain⟨l⟩:=fs
   match l,h2 with
   |[f],h2 =>
    simp only[Ad,Ak] at h2;exact⟨f,hd,h2.1,h2.2⟩
   |[],h2=>simp at h2
   |_::_::_,h2=>simp at h2
  |_=>simp at h2
 hs:=by kernel_rfl
 hc:=by kernel_rfl
 hcs:=by kernel_rfl
theorem gN12 : P.globalNamed "rabbet/num.errShort" = some 12 := by kernel_rfl
theorem gT12:(P.globals[12]?).map (·.type)=some 101:=by kernel_rfl
theorem gN13 : P.globalNamed "rabbet/num.errLong" = some 13 := by kernel_rfl
theorem gT13:(P.globals[13]?).map (·.type)=some 101:=by kernel_rfl
theorem gN16 : P.globalNamed "rabbet/nulls.errForm" = some 16 := by kernel_rfl
theorem gT16:(P.globals[16]?).map (·.type)=some 101:=by kernel_rfl
theorem gN15 : P.globalNamed "rabbet/value.errShort" = some 15 := by kernel_rfl
theorem gT15:(P.globals[15]?).map (·.type)=some 101:=by kernel_rfl
theorem gN11 : P.globalNamed "rabbet/delta.errForm" = some 11 := by kernel_rfl
theorem gT11:(P.globals[11]?).map (·.type)=some 101:=by kernel_rfl
theorem gN9 : P.globalNamed "rabbet/dict.errForm" = some 9 := by kernel_rfl
theorem gT9:(P.globals[9]?).map (·.type)=some 101:=by kernel_rfl
theorem gN10 : P.globalNamed "rabbet/pack.errForm" = some 10 := by kernel_rfl
theorem gT10:(P.globals[10]?).map (·.type)=some 101:=by kernel_rfl
theorem gN7 : P.globalNamed "rabbet/plain.errForm" = some 7 := by kernel_rfl
theorem gT7:(P.globals[7]?).map (·.type)=some 101:=by kernel_rfl
theorem gN8 : P.globalNamed "rabbet/rle.errForm" = some 8 := by kernel_rfl
theorem gT8:(P.globals[8]?).map (·.type)=some 101:=by kernel_rfl
theorem e7u:∀x,x∈b7d→∀g,P.globalNamed x.1=some g→(P.globals[g]?).map (·.type)=some 101:=by
 intro x hx g hg;simp only[b7d,Az,C6,or_false] at hx;rcases hx with rfl|rfl|rfl|rfl|rfl|rfl|rfl|rfl|rfl
 ·rw [show P.globalNamed "rabbet/num.errShort" = some 12 from gN12] at hg
  obtain rfl:=Ai hg;exact gT12
 ·rw [show P.globalNamed "rabbet/num.errLong" = some 13 from gN13] at hg
  obtain rfl:=Ai hg;exact gT13
 ·rw [show P.globalNamed "rabbet/nulls.errForm" = some 16 from gN16] at hg
  obtain rfl:=Ai hg;exact gT16
 ·rw [show P.globalNamed "rabbet/value.errShort" = some 15 from gN15] at hg
  obtain rfl:=Ai hg;exact gT15
 ·rw [show P.globalNamed "rabbet/delta.errForm" = some 11 from gN11] at hg
  obtain rfl:=Ai hg;exact gT11
 ·rw [show P.globalNamed "rabbet/dict.errForm" = some 9 from gN9] at hg
  obtain rfl:=Ai hg;exact gT9
 ·rw [show P.globalNamed "rabbet/pack.errForm" = some 10 from gN10] at hg
  obtain rfl:=Ai hg;exact gT10
 ·rw [show P.globalNamed "rabbet/plain.errForm" = some 7 from gN7] at hg
  obtain rfl:=Ai hg;exact gT7
 ·rw [show P.globalNamed "rabbet/rle.errForm" = some 8 from gN8] at hg
  obtain rfl:=Ai hg;exact gT8
theorem g6h{C:Ctx}(hC:C.gl=gls):∀g t x,C.gl g=some ⟨t,x⟩→(∃y,y∈b7d∧P.globalNamed y.1=some g)∧(⟨t,x⟩:(t:Ty)×t.den)=⟨.err,UV.sent g⟩:=by
 intro g t x h;rw[hC] at h;have hm:=b6j h;simp only[Az,C6,or_false,Ak] at hm;rcases hm with⟨rfl,he⟩|⟨rfl,he⟩|⟨rfl,he⟩|⟨rfl,he⟩|⟨rfl,he⟩|⟨rfl,he⟩|⟨rfl,he⟩|⟨rfl,he⟩|⟨rfl,he⟩
 ·exact ⟨⟨("rabbet/plain.errForm", [115, 97, 121, 115, 32, 110, 111, 32, 99, 111, 108, 117, 109, 110]), by simp [b7d], gN7⟩, he⟩
 ·exact ⟨⟨("rabbet/rle.errForm", [115, 97, 121, 115, 32, 110, 111, 32, 99, 111, 108, 117, 109, 110]), by simp [b7d], gN8⟩, he⟩
 ·exact ⟨⟨("rabbet/dict.errForm", [115, 97, 121, 115, 32, 110, 111, 32, 99, 111, 108, 117, 109, 110]), by simp [b7d], gN9⟩, he⟩
 ·exact ⟨⟨("rabbet/pack.errForm", [115, 97, 121, 115, 32, 110, 111, 32, 99, 111, 108, 117, 109, 110]), by simp [b7d], gN10⟩, he⟩
 ·exact ⟨⟨("rabbet/delta.errForm", [115, 97, 121, 115, 32, 110, 111, 32, 99, 111, 108, 117, 109, 110]), by simp [b7d], gN11⟩, he⟩
 ·exact ⟨⟨("rabbet/num.errShort", [101, 110, 100, 115, 32, 116, 111, 111, 32, 115, 111, 111, 110]), by simp [b7d], gN12⟩, he⟩
 ·exact ⟨⟨("rabbet/num.errLong", [105, 115, 32, 110, 111, 116, 32, 97, 115, 32, 115, 104, 111, 114, 116, 32, 97, 115, 32, 109, 97, 121, 32, 98, 101]), by simp [b7d], gN13⟩, he⟩
 ·exact ⟨⟨("rabbet/value.errShort", [101, 110, 100, 115, 32, 116, 111, 111, 32, 115, 111, 111, 110]), by simp [b7d], gN15⟩, he⟩
 ·exact ⟨⟨("rabbet/nulls.errForm", [105, 115, 32, 110, 111, 116, 32, 111, 102, 32, 115, 111, 32, 109, 97, 110, 121]), by simp [b7d], gN16⟩, he⟩
theorem rawG : P.globalNamed "errors.errorType" = some 1 := by kernel_rfl
theorem rawT : (P.cutTypes.find? (·.1 == "internal/reflectlite.rtype")).map (·.2) = some 272 := by kernel_rfl
theorem g8o:((AA 443).filter fun t=>P.rowNamed t [101,114,114,111,114])=[101]:=by kernel_rfl
theorem g5w:P.types.size=443:=by kernel_rfl
def rawD : DataW Unit := .iface "internal/reflectlite.rtype" (.agg [.ptr (.lit (.string [101, 114, 114, 111, 114]))])
def raws:List (Nat×Value):=[(1,.iface 272 (.agg #[tyV 101]))]
theorem e9b {W : World} (h : handlesMet P [("errors.errorType", rawD)] W) : ∀ x, x ∈ raws → ∃ el fr, W.heap[x.1]? = some (.cells #[x.2] el fr) := by
 intro x hx;obtain rfl:=B9.1 hx;obtain⟨name,u,ty,e1,e2,e3,e4,e5⟩:=h _ (B9.2 rfl);have en:name=[101,114,114,111,114]:=(Ai e1).symm;subst en;obtain rfl:=Ai (rawT.symm.trans e2);have hm:ty∈(AA 443).filter fun t=>P.rowNamed t [101,114,114,111,114]:=List.mem_filter.2 ⟨List.mem_range.2 (by rw[←g5w];exact e3),e4⟩
 rw[g8o] at hm;obtain rfl:=B9.1 hm;have hh:Value.iface 272 (.agg #[typeHandle P 101])=.iface 272 (.agg #[tyV 101]):=by kernel_rfl
 rw[hh] at e5;unfold World.var? at e5;rw [show P.globalNamed "errors.errorType" = some 1 from rawG] at e5
 simp only[Option.bind_some] at e5;split at e5
 ·rename_i cs el fr hq;cases e5;exact⟨el,fr,hq⟩
 ·cases e5
noncomputable def low:Nat:=(GG P default ⟨#[],#[],[]⟩).heap.size
noncomputable def putE(k:Nat):Obj→Obj
 |.cells _ t frozen=>.cells #[.iface 413 (.pointer (some ⟨low+k,0,none⟩))] t frozen
 |o=>o
noncomputable def putR:Obj→Obj
 |.cells _ t frozen=>.cells #[.iface 272 (.agg #[tyV 101])] t frozen
 |o=>o
noncomputable def c7i(os:Os):World :=
 let w0:=GG P os ⟨#[.cells #[.string { data:=#[101,110,100,115,32,116,111,111,32,115,111,111,110] }] 432,.cells #[.string { data:=#[105,115,32,110,111,116,32,97,115,32,115,104,111,114,116,32,97,115,32,109,97,121,32,98,101] }] 432,.cells #[.string { data:=#[105,115,32,110,111,116,32,111,102,32,115,111,32,109,97,110,121] }] 432,.cells #[.string { data:=#[101,110,100,115,32,116,111,111,32,115,111,111,110] }] 432,.cells #[.string { data:=#[115,97,121,115,32,110,111,32,99,111,108,117,109,110] }] 432,.cells #[.string { data:=#[115,97,121,115,32,110,111,32,99,111,108,117,109,110] }] 432,.cells #[.string { data:=#[115,97,121,115,32,110,111,32,99,111,108,117,109,110] }] 432,.cells #[.string { data:=#[115,97,121,115,32,110,111,32,99,111,108,117,109,110] }] 432,.cells #[.string { data:=#[115,97,121,115,32,110,111,32,99,111,108,117,109,110] }] 432],#[],[]⟩
 { w0 with heap:=((((((((((w0.heap.modify 12 (putE 0)).modify 13 (putE 1)).modify 16 (putE 2)).modify 15 (putE 3)).modify 11 (putE 4)).modify 9 (putE 5)).modify 10 (putE 6)).modify 7 (putE 7)).modify 8 (putE 8))).modify 1 putR }
theorem e0f (os : Os) (args : Array Value) : laidMetH P (("errors.errorType", rawD) :: b7d.map fun x => (x.1, d0c "*errors.errorString" x.2)) ((c7i os).forCall (fun _ _ => 0) ⟨#[], args, []⟩).memory :=
 laidMetH_of_parts (laidMet_of_run' 8 (by kernel_rfl) (by kernel_rfl)) (by kernel_rfl)
theorem b4h {W : World} (h : laidMetH P (("errors.errorType", rawD) :: b7d.map fun x => (x.1, d0c "*errors.errorString" x.2)) W) : laidMet P (b7d.map fun x => (x.1, d0c "*errors.errorString" x.2)) W ∧ handlesMet P [("errors.errorType", rawD)] W := by
 unfold laidMetH at h;rw [show ((("errors.errorType", rawD) :: b7d.map fun x => (x.1, d0c "*errors.errorString" x.2)).filter fun x => x.2.handleName?.isSome) = [("errors.errorType", rawD)] by kernel_rfl] at h
 dsimp only at h;rw [show ((("errors.errorType", rawD) :: b7d.map fun x => (x.1, d0c "*errors.errorString" x.2)).filter fun x => x.2.handleName?.isNone) = b7d.map fun x => (x.1, d0c "*errors.errorString" x.2) by kernel_rfl] at h
 exact h
def e5j(P:Program)(f:FuncId)(fn:Func)(s:ChangeSpec)(c:OpenClaim):Bool:=(c.wf (OpenSpec.ofChange s)&&laidOutB P&&mapsRowed P&&fn.params.all (P.readableRec ·)&&namedTie P c.named s.vars&&(c.stops==[])&&(P.stops==[])&&(c.knobs==[])&&(P.stopKnobs==[]))
def e6r(P:Program)(f:FuncId)(fn:Func)(s:ChangeSpec)(c:OpenClaim):Bool:=((c.inPlace==P.inPlace f)&&(c.unfollowed==P.unfollowed f)&&(c.recurses==P.recurses f))
def e2x(P:Program)(f:FuncId)(fn:Func)(s:ChangeSpec)(c:OpenClaim):Bool:=(c.named==P.varsNamed f)
def e5m(P:Program)(f:FuncId)(fn:Func)(s:ChangeSpec)(c:OpenClaim):Bool:=((c.maps==(fn.params.toList++s.plain.varTypes P).any (P.mapsRec ·))&&(c.ifaces==(fn.params.toList++s.plain.varTypes P).any (P.ifacesRec ·))&&(c.mapsOut==P.mapsAmong fn.resultTypes.toList)&&(c.loops==(fn.params.toList++s.plain.varTypes P).any (P.loopsFrom ·))&&(c.wideKeys==(fn.params.toList++s.plain.varTypes P++fn.resultTypes.toList).any (P.wideKeysFrom ·))&&s.vars.all (P.varReadable ·)&&fn.resultTypes.all (fun t=>P.readableRec t&&decide (t<P.types.size))&&(c.ifacesOut==fn.resultTypes.toList.any (P.ifacesRec ·))&&(c.loopsOut==fn.resultTypes.toList.any (P.loopsFrom ·)))
def e2d(P:Program)(f:FuncId)(fn:Func)(s:ChangeSpec)(c:OpenClaim):Bool:=((c.plainKeys==P.plainKeys)&&c.shortTexts.isNone&&P.stopsHeard&&P.mayEnter)
def e5u(P:Program)(f:FuncId)(fn:Func)(s:ChangeSpec)(c:OpenClaim):Bool:=((c.lifted==P.liftsFinal)&&(P.make==some c.make))
def e3w(P:Program)(f:FuncId)(fn:Func)(s:ChangeSpec)(c:OpenClaim):Bool:=((c.kinds==(if c.domain.isEmpty then[] else fn.params.toList.map fun t=>match P.underlying t with|some (.int k)=>some k|_=>none))&&(c.pinned==c.pinnedBy)&&(c.veiled==(fn.params.toList++s.plain.varTypes P++fn.resultTypes.toList).any (P.veiledRec ·))&&c.veiledFits P fn.params.toList (fn.params.toList++s.plain.varTypes P++fn.resultTypes.toList))
theorem e0o{P:Program}{f:FuncId}{fn:Func}{s:ChangeSpec}{c:OpenClaim}(h1:e5j P f fn s c=true)(h2:e6r P f fn s c=true)(h3:e2x P f fn s c=true)(h4:e5m P f fn s c=true)(h5:e2d P f fn s c=true)(h6:e5u P f fn s c=true)(h7:e3w P f fn s c=true) :
  joinedFacts P f fn s c=true:=by
 simp only[e5j,e6r,e2x,e5m,e2d,e5u,e3w,Af] at h1 h2 h3 h4 h5 h6 h7;simp only[joinedFacts,Af];simp only[h1,h2,h3,h4,h5,h6,h7,and_self,true_and,and_true];exact h7.1.1.1
end Go.Rb.R5
