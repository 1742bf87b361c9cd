/-
  No cell of these rows narrows 'for every input' (looked for: loops, veiled, ifaces, maps, wideKeys, modest, calm, conditions, laid).
  DERIVED. THE GIVEN ROWS OF THIS SEAT. 4 by the template 'for every input the law returns true; each argument reads behind the call as it read before'; 0 by the template 'total and deterministic' (their statements: YtcgaabciagiodaaTotals.lean).
  GIVEN WITH THE SEED: the statements are not yours to turn. If you find one false, say at which input.
  Laid BY PROGRAM, IN A SANDBOX (cutbox-rows.mjs): the forced cells as the released guide's own fill.sh prints them over the translation 9cf45b733162617b… (all of the seat's roots in one cut). By AI agents, Wed Nov 11 2026. No macro, syntax, notation, axiom, sorry.
-/
import Derived.Test.YtcgaabciagiodaaChecked
import GoSem.Claim
import GoSem.ClaimJoined
import GoSem.ClaimMapViews
import Derived.JoinedTies
import Derived.KernelRfl
namespace Go.Proofs.Ytcgaabciagiodaa
/- THE CELL 'sum', in the pinned program and in every row, IS THE sha256 OF THE DUMP (.gsa) THAT YtcgaabciagiodaaProg.lean LOADS. Nothing in Lean hashes anything: it is a label: what it is worth is what the hold of that sum in a sandbox is worth. -/
noncomputable def Try.pinned : Pinned := { name := "ytcgaabciagiodaa", sum := "9cf45b733162617b8c2322397cb312e5e883604c4b97a343ba6774abef5ff31a", checked := Try.checked }
namespace Rows
def none {H : Type} : Left H := { results := [], args := [] }

/-- 'rabbetlaw14.PartOnce': WHATEVER THE INPUT: true; the input reads as it did. -/
def partOnceSpec : ChangeSpec := { name := "partOnce", fn := fun _ => fun
  | [d1, d2, d3] => { results := [.lit (.bool true)], args := [d1, d2, d3] }
  | _ => none }
def partOnceRow : OpenClaim := { program := "ytcgaabciagiodaa", sum := "9cf45b733162617b8c2322397cb312e5e883604c4b97a343ba6774abef5ff31a", func := "rabbet/rabbetlaw14.PartOnce", spec := "partOnce", apart := false }
def PartOnceSaid : Prop := partOnceRow.holds Try.pinned (OpenSpec.ofChange partOnceSpec)

/-- ITS FALSE NEIGHBOUR: 'it returns false'. Refute it at one input. -/
def partOnceWrong : ChangeSpec := { name := "partOnce", fn := fun _ => fun
  | [d1, d2, d3] => { results := [.lit (.bool false)], args := [d1, d2, d3] }
  | _ => none }
def PartOnceWrongFalsely : Prop := partOnceRow.holds Try.pinned (OpenSpec.ofChange partOnceWrong)

/-- 'rabbetlaw16.ChangeFits': WHATEVER THE INPUT: true; the input reads as it did. -/
def changeFitsSpec : ChangeSpec := { name := "changeFits", fn := fun _ => fun
  | [d1, d2] => { results := [.lit (.bool true)], args := [d1, d2] }
  | _ => none }
def changeFitsRow : OpenClaim := { program := "ytcgaabciagiodaa", sum := "9cf45b733162617b8c2322397cb312e5e883604c4b97a343ba6774abef5ff31a", func := "rabbet/rabbetlaw16.ChangeFits", spec := "changeFits", inPlace := ["internal/bytealg.IndexByteString", "slices.overlaps[rabbet/api.Value]"], unfollowed := true, recurses := true, apart := false }
def ChangeFitsSaid : Prop := changeFitsRow.holds Try.pinned (OpenSpec.ofChange changeFitsSpec)

/-- ITS FALSE NEIGHBOUR: 'it returns false'. Refute it at one input. -/
def changeFitsWrong : ChangeSpec := { name := "changeFits", fn := fun _ => fun
  | [d1, d2] => { results := [.lit (.bool false)], args := [d1, d2] }
  | _ => none }
def ChangeFitsWrongFalsely : Prop := changeFitsRow.holds Try.pinned (OpenSpec.ofChange changeFitsWrong)

/-- 'rabbetlaw16.ChangeJoins': WHATEVER THE INPUT: true; the input reads as it did. -/
def changeJoinsSpec : ChangeSpec := { name := "changeJoins", fn := fun _ => fun
  | [d1, d2] => { results := [.lit (.bool true)], args := [d1, d2] }
  | _ => none }
def changeJoinsRow : OpenClaim := { program := "ytcgaabciagiodaa", sum := "9cf45b733162617b8c2322397cb312e5e883604c4b97a343ba6774abef5ff31a", func := "rabbet/rabbetlaw16.ChangeJoins", spec := "changeJoins", inPlace := ["internal/bytealg.IndexByteString", "slices.overlaps[rabbet/api.Value]"], unfollowed := true, recurses := true, apart := false }
def ChangeJoinsSaid : Prop := changeJoinsRow.holds Try.pinned (OpenSpec.ofChange changeJoinsSpec)

/-- ITS FALSE NEIGHBOUR: 'it returns false'. Refute it at one input. -/
def changeJoinsWrong : ChangeSpec := { name := "changeJoins", fn := fun _ => fun
  | [d1, d2] => { results := [.lit (.bool false)], args := [d1, d2] }
  | _ => none }
def ChangeJoinsWrongFalsely : Prop := changeJoinsRow.holds Try.pinned (OpenSpec.ofChange changeJoinsWrong)

/-- 'rabbetlaw16.ChangeForms': WHATEVER THE INPUT: true; the input reads as it did. -/
def changeFormsSpec : ChangeSpec := { name := "changeForms", fn := fun _ => fun
  | [] => { results := [.lit (.bool true)], args := [] }
  | _ => none }
def changeFormsRow : OpenClaim := { program := "ytcgaabciagiodaa", sum := "9cf45b733162617b8c2322397cb312e5e883604c4b97a343ba6774abef5ff31a", func := "rabbet/rabbetlaw16.ChangeForms", spec := "changeForms", inPlace := ["internal/bytealg.IndexByteString", "slices.overlaps[rabbet/api.Value]"], unfollowed := true, recurses := true, apart := false }
def ChangeFormsSaid : Prop := changeFormsRow.holds Try.pinned (OpenSpec.ofChange changeFormsSpec)

/-- ITS FALSE NEIGHBOUR: 'it returns false'. Refute it at one input. -/
def changeFormsWrong : ChangeSpec := { name := "changeForms", fn := fun _ => fun
  | [] => { results := [.lit (.bool false)], args := [] }
  | _ => none }
def ChangeFormsWrongFalsely : Prop := changeFormsRow.holds Try.pinned (OpenSpec.ofChange changeFormsWrong)

/- THE SECOND FORM. 'bulk': how many values and letters a reading holds, each counted each time it is reached (what is shared counts as often as it is met; a slice's spare places count too). A statement '..UptoSaid' is the law's where the arguments, and the package variables that the reading takes, are together of bulk at most 1048576: NARROWER than '..Said'. Prove '..Said' where nothing that the law and all that it calls make is longer than what came in: it says more and counts as full. Else prove '..UptoSaid'. A law counts once. -/
mutual
def uptoBulk {H : Type} : DataW H → Nat
  | .lit (.string bytes) => bytes.length + 1
  | .lit _ => 1
  | .nil => 1
  | .ptr d => uptoBulk d + 1
  | .slice elems spare => uptoBulkAll elems + uptoBulkAll spare + 1
  | .agg parts => uptoBulkAll parts + 1
  | .iface _ d => uptoBulk d + 1
  | .map entries => uptoBulkEntries entries + 1
  | .held _ => 1
def uptoBulkAll {H : Type} : List (DataW H) → Nat
  | [] => 0
  | d :: r => uptoBulk d + uptoBulkAll r
def uptoBulkEntries {H : Type} : List (Lit × DataW H) → Nat
  | [] => 0
  | x :: r => uptoBulkEntry x + uptoBulkEntries r
def uptoBulkEntry {H : Type} : Lit × DataW H → Nat
  | (.string bytes, d) => bytes.length + uptoBulk d + 1
  | (_, d) => uptoBulk d + 1
 end
def uptoSmall : (H : Type) → List (DataW H) → Bool := fun _ ds => decide (uptoBulkAll ds ≤ 1048576)
def OpenSpec.upto (s : _root_.Go.ChangeSpec) : _root_.Go.OpenSpec := { _root_.Go.OpenSpec.ofChange s with cond := some uptoSmall }

/-- 'rabbetlaw14.PartOnce', WHERE WHAT IT READS IS OF BULK AT MOST 1048576: true; the input reads as it did. -/
def partOnceUptoRow : OpenClaim := { program := "ytcgaabciagiodaa", sum := "9cf45b733162617b8c2322397cb312e5e883604c4b97a343ba6774abef5ff31a", func := "rabbet/rabbetlaw14.PartOnce", spec := "partOnce", apart := false, narrowed := true }
def PartOnceUptoSaid : Prop := partOnceUptoRow.holds Try.pinned (OpenSpec.upto partOnceSpec)

/-- 'rabbetlaw16.ChangeFits', WHERE WHAT IT READS IS OF BULK AT MOST 1048576: true; the input reads as it did. -/
def changeFitsUptoRow : OpenClaim := { program := "ytcgaabciagiodaa", sum := "9cf45b733162617b8c2322397cb312e5e883604c4b97a343ba6774abef5ff31a", func := "rabbet/rabbetlaw16.ChangeFits", spec := "changeFits", inPlace := ["internal/bytealg.IndexByteString", "slices.overlaps[rabbet/api.Value]"], unfollowed := true, recurses := true, apart := false, narrowed := true }
def ChangeFitsUptoSaid : Prop := changeFitsUptoRow.holds Try.pinned (OpenSpec.upto changeFitsSpec)

/-- 'rabbetlaw16.ChangeJoins', WHERE WHAT IT READS IS OF BULK AT MOST 1048576: true; the input reads as it did. -/
def changeJoinsUptoRow : OpenClaim := { program := "ytcgaabciagiodaa", sum := "9cf45b733162617b8c2322397cb312e5e883604c4b97a343ba6774abef5ff31a", func := "rabbet/rabbetlaw16.ChangeJoins", spec := "changeJoins", inPlace := ["internal/bytealg.IndexByteString", "slices.overlaps[rabbet/api.Value]"], unfollowed := true, recurses := true, apart := false, narrowed := true }
def ChangeJoinsUptoSaid : Prop := changeJoinsUptoRow.holds Try.pinned (OpenSpec.upto changeJoinsSpec)

/-- 'rabbetlaw16.ChangeForms', WHERE WHAT IT READS IS OF BULK AT MOST 1048576: true; the input reads as it did. -/
def changeFormsUptoRow : OpenClaim := { program := "ytcgaabciagiodaa", sum := "9cf45b733162617b8c2322397cb312e5e883604c4b97a343ba6774abef5ff31a", func := "rabbet/rabbetlaw16.ChangeForms", spec := "changeForms", inPlace := ["internal/bytealg.IndexByteString", "slices.overlaps[rabbet/api.Value]"], unfollowed := true, recurses := true, apart := false, narrowed := true }
def ChangeFormsUptoSaid : Prop := changeFormsUptoRow.holds Try.pinned (OpenSpec.upto changeFormsSpec)

end Rows
end Go.Proofs.Ytcgaabciagiodaa
