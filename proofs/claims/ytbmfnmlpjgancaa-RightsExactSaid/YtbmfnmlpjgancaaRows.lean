/-
  No cell of these rows narrows 'for every input' (looked for: loops, veiled, ifaces, maps, wideKeys, modest, calm, conditions, laid).
  DERIVED. THE GIVEN ROWS OF THIS SEAT. 3 by the template 'for every input the law returns true; each argument reads behind the call as it read before'; 0 by the template 'total and deterministic' (their statements: YtbmfnmlpjgancaaTotals.lean).
  GIVEN WITH THE SEED: the statements are not yours to turn. If you find one false, say at which input.
  Laid BY PROGRAM, IN A SANDBOX (cutbox-rows.mjs): the forced cells as the released guide's own fill.sh prints them over the translation e77c525be0ad1782… (all of the seat's roots in one cut). By AI agents, Wed Nov 11 2026. No macro, syntax, notation, axiom, sorry.
-/
import Derived.Test.YtbmfnmlpjgancaaChecked
import GoSem.Claim
import GoSem.ClaimJoined
import GoSem.ClaimMapViews
import Derived.JoinedTies
import Derived.KernelRfl
namespace Go.Proofs.Ytbmfnmlpjgancaa
/- THE CELL 'sum', in the pinned program and in every row, IS THE sha256 OF THE DUMP (.gsa) THAT YtbmfnmlpjgancaaProg.lean LOADS. Nothing in Lean hashes anything: it is a label: what it is worth is what the hold of that sum in a sandbox is worth. -/
noncomputable def Try.pinned : Pinned := { name := "ytbmfnmlpjgancaa", sum := "e77c525be0ad1782f657abf422c718279637d5e560b741208cc17607d0f7a10c", checked := Try.checked }
namespace Rows
def none {H : Type} : Left H := { results := [], args := [] }

/-- 'gangwaylaw17.RightsExact': WHATEVER THE INPUT: true; the input reads as it did. -/
def rightsExactSpec : ChangeSpec := { name := "rightsExact", fn := fun _ => fun
  | [d] => { results := [.lit (.bool true)], args := [d] }
  | _ => none }
def rightsExactRow : OpenClaim := { program := "ytbmfnmlpjgancaa", sum := "e77c525be0ad1782f657abf422c718279637d5e560b741208cc17607d0f7a10c", func := "gangway/gangwaylaw17.RightsExact", spec := "rightsExact", unfollowed := true, recurses := true, apart := false }
def RightsExactSaid : Prop := rightsExactRow.holds Try.pinned (OpenSpec.ofChange rightsExactSpec)

/-- ITS FALSE NEIGHBOUR: 'it returns false'. Refute it at one input. -/
def rightsExactWrong : ChangeSpec := { name := "rightsExact", fn := fun _ => fun
  | [d] => { results := [.lit (.bool false)], args := [d] }
  | _ => none }
def RightsExactWrongFalsely : Prop := rightsExactRow.holds Try.pinned (OpenSpec.ofChange rightsExactWrong)

/-- 'gangwaylaw17.RightsLaws': WHATEVER THE INPUT: true; the input reads as it did. -/
def rightsLawsSpec : ChangeSpec := { name := "rightsLaws", fn := fun _ => fun
  | [d] => { results := [.lit (.bool true)], args := [d] }
  | _ => none }
def rightsLawsRow : OpenClaim := { program := "ytbmfnmlpjgancaa", sum := "e77c525be0ad1782f657abf422c718279637d5e560b741208cc17607d0f7a10c", func := "gangway/gangwaylaw17.RightsLaws", spec := "rightsLaws", unfollowed := true, recurses := true, apart := false }
def RightsLawsSaid : Prop := rightsLawsRow.holds Try.pinned (OpenSpec.ofChange rightsLawsSpec)

/-- ITS FALSE NEIGHBOUR: 'it returns false'. Refute it at one input. -/
def rightsLawsWrong : ChangeSpec := { name := "rightsLaws", fn := fun _ => fun
  | [d] => { results := [.lit (.bool false)], args := [d] }
  | _ => none }
def RightsLawsWrongFalsely : Prop := rightsLawsRow.holds Try.pinned (OpenSpec.ofChange rightsLawsWrong)

/-- 'gangwaylaw17.RightsBits': WHATEVER THE INPUT: true; the input reads as it did. -/
def rightsBitsSpec : ChangeSpec := { name := "rightsBits", fn := fun _ => fun
  | [d] => { results := [.lit (.bool true)], args := [d] }
  | _ => none }
def rightsBitsRow : OpenClaim := { program := "ytbmfnmlpjgancaa", sum := "e77c525be0ad1782f657abf422c718279637d5e560b741208cc17607d0f7a10c", func := "gangway/gangwaylaw17.RightsBits", spec := "rightsBits", unfollowed := true, recurses := true, apart := false }
def RightsBitsSaid : Prop := rightsBitsRow.holds Try.pinned (OpenSpec.ofChange rightsBitsSpec)

/-- ITS FALSE NEIGHBOUR: 'it returns false'. Refute it at one input. -/
def rightsBitsWrong : ChangeSpec := { name := "rightsBits", fn := fun _ => fun
  | [d] => { results := [.lit (.bool false)], args := [d] }
  | _ => none }
def RightsBitsWrongFalsely : Prop := rightsBitsRow.holds Try.pinned (OpenSpec.ofChange rightsBitsWrong)

/- THE SECOND FORM. 'bulk': how many values and letters a reading holds, each counted each time it is reached (what is shared counts as often as it is met; a slice's spare places count too). A statement '..UptoSaid' is the law's where the arguments, and the package variables that the reading takes, are together of bulk at most 1048576: NARROWER than '..Said'. Prove '..Said' where nothing that the law and all that it calls make is longer than what came in: it says more and counts as full. Else prove '..UptoSaid'. A law counts once. -/
mutual
def uptoBulk {H : Type} : DataW H → Nat
  | .lit (.string bytes) => bytes.length + 1
  | .lit _ => 1
  | .nil => 1
  | .ptr d => uptoBulk d + 1
  | .slice elems spare => uptoBulkAll elems + uptoBulkAll spare + 1
  | .agg parts => uptoBulkAll parts + 1
  | .iface _ d => uptoBulk d + 1
  | .map entries => uptoBulkEntries entries + 1
  | .held _ => 1
def uptoBulkAll {H : Type} : List (DataW H) → Nat
  | [] => 0
  | d :: r => uptoBulk d + uptoBulkAll r
def uptoBulkEntries {H : Type} : List (Lit × DataW H) → Nat
  | [] => 0
  | x :: r => uptoBulkEntry x + uptoBulkEntries r
def uptoBulkEntry {H : Type} : Lit × DataW H → Nat
  | (.string bytes, d) => bytes.length + uptoBulk d + 1
  | (_, d) => uptoBulk d + 1
 end
def uptoSmall : (H : Type) → List (DataW H) → Bool := fun _ ds => decide (uptoBulkAll ds ≤ 1048576)
def OpenSpec.upto (s : _root_.Go.ChangeSpec) : _root_.Go.OpenSpec := { _root_.Go.OpenSpec.ofChange s with cond := some uptoSmall }

/-- 'gangwaylaw17.RightsExact', WHERE WHAT IT READS IS OF BULK AT MOST 1048576: true; the input reads as it did. -/
def rightsExactUptoRow : OpenClaim := { program := "ytbmfnmlpjgancaa", sum := "e77c525be0ad1782f657abf422c718279637d5e560b741208cc17607d0f7a10c", func := "gangway/gangwaylaw17.RightsExact", spec := "rightsExact", unfollowed := true, recurses := true, apart := false, narrowed := true }
def RightsExactUptoSaid : Prop := rightsExactUptoRow.holds Try.pinned (OpenSpec.upto rightsExactSpec)

/-- 'gangwaylaw17.RightsLaws', WHERE WHAT IT READS IS OF BULK AT MOST 1048576: true; the input reads as it did. -/
def rightsLawsUptoRow : OpenClaim := { program := "ytbmfnmlpjgancaa", sum := "e77c525be0ad1782f657abf422c718279637d5e560b741208cc17607d0f7a10c", func := "gangway/gangwaylaw17.RightsLaws", spec := "rightsLaws", unfollowed := true, recurses := true, apart := false, narrowed := true }
def RightsLawsUptoSaid : Prop := rightsLawsUptoRow.holds Try.pinned (OpenSpec.upto rightsLawsSpec)

/-- 'gangwaylaw17.RightsBits', WHERE WHAT IT READS IS OF BULK AT MOST 1048576: true; the input reads as it did. -/
def rightsBitsUptoRow : OpenClaim := { program := "ytbmfnmlpjgancaa", sum := "e77c525be0ad1782f657abf422c718279637d5e560b741208cc17607d0f7a10c", func := "gangway/gangwaylaw17.RightsBits", spec := "rightsBits", unfollowed := true, recurses := true, apart := false, narrowed := true }
def RightsBitsUptoSaid : Prop := rightsBitsUptoRow.holds Try.pinned (OpenSpec.upto rightsBitsSpec)

end Rows
end Go.Proofs.Ytbmfnmlpjgancaa
