/-
  No cell of these rows narrows 'for every input' (looked for: loops, veiled, ifaces, maps, wideKeys, modest, calm, conditions, laid).
  DERIVED. THE GIVEN ROWS OF THIS SEAT. 8 by the template 'for every input the law returns true; each argument reads behind the call as it read before'; 0 by the template 'total and deterministic' (their statements: YtjghephnjkffcaaGreatTotals.lean).
  GIVEN WITH THE SEED: the statements are not yours to turn. If you find one false, say at which input.
  Laid BY PROGRAM, IN A SANDBOX (cutbox-rows.mjs): the forced cells as the released guide's own fill.sh prints them over the translation f451fe703b29dd7f… (all of the seat's roots in one cut). By AI agents, Wed Nov 11 2026. No macro, syntax, notation, axiom, sorry.
-/
import Derived.Test.YtjghephnjkffcaaGreatChecked
import GoSem.Claim
import GoSem.ClaimJoined
import GoSem.ClaimMapViews
import Derived.JoinedTies
import Derived.KernelRfl
namespace Go.Proofs.YtjghephnjkffcaaGreat
/- THE CELL 'sum', in the pinned program and in every row, IS THE sha256 OF THE DUMP (.gsa) THAT YtjghephnjkffcaaGreatProg.lean LOADS. Nothing in Lean hashes anything: it is a label: what it is worth is what the hold of that sum in a sandbox is worth. -/
noncomputable def Tryz.pinned : Pinned := { name := "ytjghephnjkffcaagreat", sum := "f451fe703b29dd7fb9ef1406ba20d0710b197dfdb7cc78d15579bdb96a251469", checked := Tryz.checked }
namespace Rows
def none {H : Type} : Left H := { results := [], args := [] }

/-- 'gangwaylaw13.TreeMakes': WHATEVER THE INPUT: true; the input reads as it did. -/
def treeMakesSpec : ChangeSpec := { name := "treeMakes", fn := fun _ => fun
  | [d] => { results := [.lit (.bool true)], args := [d] }
  | _ => none }
def treeMakesRow : OpenClaim := { program := "ytjghephnjkffcaagreat", sum := "f451fe703b29dd7fb9ef1406ba20d0710b197dfdb7cc78d15579bdb96a251469", func := "gangway/gangwaylaw13.TreeMakes", spec := "treeMakes", inPlace := ["internal/bytealg.IndexByteString", "internal/bytealg.abigen_runtime_cmpstring", "slices.overlaps[gangway/api.Name]"], unfollowed := true, recurses := true, apart := false }
def TreeMakesSaid : Prop := treeMakesRow.holds Tryz.pinned (OpenSpec.ofChange treeMakesSpec)

/-- ITS FALSE NEIGHBOUR: 'it returns false'. Refute it at one input. -/
def treeMakesWrong : ChangeSpec := { name := "treeMakes", fn := fun _ => fun
  | [d] => { results := [.lit (.bool false)], args := [d] }
  | _ => none }
def TreeMakesWrongFalsely : Prop := treeMakesRow.holds Tryz.pinned (OpenSpec.ofChange treeMakesWrong)

/-- 'gangwaylaw13.TreeLinks': WHATEVER THE INPUT: true; the input reads as it did. -/
def treeLinksSpec : ChangeSpec := { name := "treeLinks", fn := fun _ => fun
  | [d] => { results := [.lit (.bool true)], args := [d] }
  | _ => none }
def treeLinksRow : OpenClaim := { program := "ytjghephnjkffcaagreat", sum := "f451fe703b29dd7fb9ef1406ba20d0710b197dfdb7cc78d15579bdb96a251469", func := "gangway/gangwaylaw13.TreeLinks", spec := "treeLinks", inPlace := ["internal/bytealg.IndexByteString", "internal/bytealg.abigen_runtime_cmpstring", "slices.overlaps[gangway/api.Name]"], unfollowed := true, recurses := true, apart := false }
def TreeLinksSaid : Prop := treeLinksRow.holds Tryz.pinned (OpenSpec.ofChange treeLinksSpec)

/-- ITS FALSE NEIGHBOUR: 'it returns false'. Refute it at one input. -/
def treeLinksWrong : ChangeSpec := { name := "treeLinks", fn := fun _ => fun
  | [d] => { results := [.lit (.bool false)], args := [d] }
  | _ => none }
def TreeLinksWrongFalsely : Prop := treeLinksRow.holds Tryz.pinned (OpenSpec.ofChange treeLinksWrong)

/-- 'gangwaylaw13.TreeUnlinks': WHATEVER THE INPUT: true; the input reads as it did. -/
def treeUnlinksSpec : ChangeSpec := { name := "treeUnlinks", fn := fun _ => fun
  | [d] => { results := [.lit (.bool true)], args := [d] }
  | _ => none }
def treeUnlinksRow : OpenClaim := { program := "ytjghephnjkffcaagreat", sum := "f451fe703b29dd7fb9ef1406ba20d0710b197dfdb7cc78d15579bdb96a251469", func := "gangway/gangwaylaw13.TreeUnlinks", spec := "treeUnlinks", inPlace := ["internal/bytealg.IndexByteString", "internal/bytealg.abigen_runtime_cmpstring", "slices.overlaps[gangway/api.Name]"], unfollowed := true, recurses := true, apart := false }
def TreeUnlinksSaid : Prop := treeUnlinksRow.holds Tryz.pinned (OpenSpec.ofChange treeUnlinksSpec)

/-- ITS FALSE NEIGHBOUR: 'it returns false'. Refute it at one input. -/
def treeUnlinksWrong : ChangeSpec := { name := "treeUnlinks", fn := fun _ => fun
  | [d] => { results := [.lit (.bool false)], args := [d] }
  | _ => none }
def TreeUnlinksWrongFalsely : Prop := treeUnlinksRow.holds Tryz.pinned (OpenSpec.ofChange treeUnlinksWrong)

/-- 'gangwaylaw13.TreeRenames': WHATEVER THE INPUT: true; the input reads as it did. -/
def treeRenamesSpec : ChangeSpec := { name := "treeRenames", fn := fun _ => fun
  | [d] => { results := [.lit (.bool true)], args := [d] }
  | _ => none }
def treeRenamesRow : OpenClaim := { program := "ytjghephnjkffcaagreat", sum := "f451fe703b29dd7fb9ef1406ba20d0710b197dfdb7cc78d15579bdb96a251469", func := "gangway/gangwaylaw13.TreeRenames", spec := "treeRenames", inPlace := ["internal/bytealg.IndexByteString", "internal/bytealg.abigen_runtime_cmpstring", "slices.overlaps[gangway/api.Name]"], unfollowed := true, recurses := true, apart := false }
def TreeRenamesSaid : Prop := treeRenamesRow.holds Tryz.pinned (OpenSpec.ofChange treeRenamesSpec)

/-- ITS FALSE NEIGHBOUR: 'it returns false'. Refute it at one input. -/
def treeRenamesWrong : ChangeSpec := { name := "treeRenames", fn := fun _ => fun
  | [d] => { results := [.lit (.bool false)], args := [d] }
  | _ => none }
def TreeRenamesWrongFalsely : Prop := treeRenamesRow.holds Tryz.pinned (OpenSpec.ofChange treeRenamesWrong)

/-- 'gangwaylaw13.TreeReads': WHATEVER THE INPUT: true; the input reads as it did. -/
def treeReadsSpec : ChangeSpec := { name := "treeReads", fn := fun _ => fun
  | [d] => { results := [.lit (.bool true)], args := [d] }
  | _ => none }
def treeReadsRow : OpenClaim := { program := "ytjghephnjkffcaagreat", sum := "f451fe703b29dd7fb9ef1406ba20d0710b197dfdb7cc78d15579bdb96a251469", func := "gangway/gangwaylaw13.TreeReads", spec := "treeReads", inPlace := ["internal/bytealg.IndexByteString", "internal/bytealg.abigen_runtime_cmpstring", "slices.overlaps[gangway/api.Name]"], unfollowed := true, recurses := true, apart := false }
def TreeReadsSaid : Prop := treeReadsRow.holds Tryz.pinned (OpenSpec.ofChange treeReadsSpec)

/-- ITS FALSE NEIGHBOUR: 'it returns false'. Refute it at one input. -/
def treeReadsWrong : ChangeSpec := { name := "treeReads", fn := fun _ => fun
  | [d] => { results := [.lit (.bool false)], args := [d] }
  | _ => none }
def TreeReadsWrongFalsely : Prop := treeReadsRow.holds Tryz.pinned (OpenSpec.ofChange treeReadsWrong)

/-- 'gangwaylaw13.TreeWrites': WHATEVER THE INPUT: true; the input reads as it did. -/
def treeWritesSpec : ChangeSpec := { name := "treeWrites", fn := fun _ => fun
  | [d] => { results := [.lit (.bool true)], args := [d] }
  | _ => none }
def treeWritesRow : OpenClaim := { program := "ytjghephnjkffcaagreat", sum := "f451fe703b29dd7fb9ef1406ba20d0710b197dfdb7cc78d15579bdb96a251469", func := "gangway/gangwaylaw13.TreeWrites", spec := "treeWrites", inPlace := ["internal/bytealg.IndexByteString", "internal/bytealg.abigen_runtime_cmpstring", "slices.overlaps[gangway/api.Name]"], unfollowed := true, recurses := true, apart := false }
def TreeWritesSaid : Prop := treeWritesRow.holds Tryz.pinned (OpenSpec.ofChange treeWritesSpec)

/-- ITS FALSE NEIGHBOUR: 'it returns false'. Refute it at one input. -/
def treeWritesWrong : ChangeSpec := { name := "treeWrites", fn := fun _ => fun
  | [d] => { results := [.lit (.bool false)], args := [d] }
  | _ => none }
def TreeWritesWrongFalsely : Prop := treeWritesRow.holds Tryz.pinned (OpenSpec.ofChange treeWritesWrong)

/-- 'gangwaylaw13.TreeFinds': WHATEVER THE INPUT: true; the input reads as it did. -/
def treeFindsSpec : ChangeSpec := { name := "treeFinds", fn := fun _ => fun
  | [d] => { results := [.lit (.bool true)], args := [d] }
  | _ => none }
def treeFindsRow : OpenClaim := { program := "ytjghephnjkffcaagreat", sum := "f451fe703b29dd7fb9ef1406ba20d0710b197dfdb7cc78d15579bdb96a251469", func := "gangway/gangwaylaw13.TreeFinds", spec := "treeFinds", inPlace := ["internal/bytealg.IndexByteString", "internal/bytealg.abigen_runtime_cmpstring", "slices.overlaps[gangway/api.Name]"], unfollowed := true, recurses := true, apart := false }
def TreeFindsSaid : Prop := treeFindsRow.holds Tryz.pinned (OpenSpec.ofChange treeFindsSpec)

/-- ITS FALSE NEIGHBOUR: 'it returns false'. Refute it at one input. -/
def treeFindsWrong : ChangeSpec := { name := "treeFinds", fn := fun _ => fun
  | [d] => { results := [.lit (.bool false)], args := [d] }
  | _ => none }
def TreeFindsWrongFalsely : Prop := treeFindsRow.holds Tryz.pinned (OpenSpec.ofChange treeFindsWrong)

/-- 'gangwaylaw13.TreeExact': WHATEVER THE INPUT: true; the input reads as it did. -/
def treeExactSpec : ChangeSpec := { name := "treeExact", fn := fun _ => fun
  | [d] => { results := [.lit (.bool true)], args := [d] }
  | _ => none }
def treeExactRow : OpenClaim := { program := "ytjghephnjkffcaagreat", sum := "f451fe703b29dd7fb9ef1406ba20d0710b197dfdb7cc78d15579bdb96a251469", func := "gangway/gangwaylaw13.TreeExact", spec := "treeExact", inPlace := ["internal/bytealg.IndexByteString", "internal/bytealg.abigen_runtime_cmpstring", "slices.overlaps[gangway/api.Name]"], unfollowed := true, recurses := true, apart := false }
def TreeExactSaid : Prop := treeExactRow.holds Tryz.pinned (OpenSpec.ofChange treeExactSpec)

/-- ITS FALSE NEIGHBOUR: 'it returns false'. Refute it at one input. -/
def treeExactWrong : ChangeSpec := { name := "treeExact", fn := fun _ => fun
  | [d] => { results := [.lit (.bool false)], args := [d] }
  | _ => none }
def TreeExactWrongFalsely : Prop := treeExactRow.holds Tryz.pinned (OpenSpec.ofChange treeExactWrong)

/- THE SECOND FORM. 'bulk': how many values and letters a reading holds, each counted each time it is reached (what is shared counts as often as it is met; a slice's spare places count too). A statement '..UptoSaid' is the law's where the arguments, and the package variables that the reading takes, are together of bulk at most 1048576: NARROWER than '..Said'. Prove '..Said' where nothing that the law and all that it calls make is longer than what came in: it says more and counts as full. Else prove '..UptoSaid'. A law counts once. -/
mutual
def uptoBulk {H : Type} : DataW H → Nat
  | .lit (.string bytes) => bytes.length + 1
  | .lit _ => 1
  | .nil => 1
  | .ptr d => uptoBulk d + 1
  | .slice elems spare => uptoBulkAll elems + uptoBulkAll spare + 1
  | .agg parts => uptoBulkAll parts + 1
  | .iface _ d => uptoBulk d + 1
  | .map entries => uptoBulkEntries entries + 1
  | .held _ => 1
def uptoBulkAll {H : Type} : List (DataW H) → Nat
  | [] => 0
  | d :: r => uptoBulk d + uptoBulkAll r
def uptoBulkEntries {H : Type} : List (Lit × DataW H) → Nat
  | [] => 0
  | x :: r => uptoBulkEntry x + uptoBulkEntries r
def uptoBulkEntry {H : Type} : Lit × DataW H → Nat
  | (.string bytes, d) => bytes.length + uptoBulk d + 1
  | (_, d) => uptoBulk d + 1
 end
def uptoSmall : (H : Type) → List (DataW H) → Bool := fun _ ds => decide (uptoBulkAll ds ≤ 1048576)
def OpenSpec.upto (s : _root_.Go.ChangeSpec) : _root_.Go.OpenSpec := { _root_.Go.OpenSpec.ofChange s with cond := some uptoSmall }

/-- 'gangwaylaw13.TreeMakes', WHERE WHAT IT READS IS OF BULK AT MOST 1048576: true; the input reads as it did. -/
def treeMakesUptoRow : OpenClaim := { program := "ytjghephnjkffcaagreat", sum := "f451fe703b29dd7fb9ef1406ba20d0710b197dfdb7cc78d15579bdb96a251469", func := "gangway/gangwaylaw13.TreeMakes", spec := "treeMakes", inPlace := ["internal/bytealg.IndexByteString", "internal/bytealg.abigen_runtime_cmpstring", "slices.overlaps[gangway/api.Name]"], unfollowed := true, recurses := true, apart := false, narrowed := true }
def TreeMakesUptoSaid : Prop := treeMakesUptoRow.holds Tryz.pinned (OpenSpec.upto treeMakesSpec)

/-- 'gangwaylaw13.TreeLinks', WHERE WHAT IT READS IS OF BULK AT MOST 1048576: true; the input reads as it did. -/
def treeLinksUptoRow : OpenClaim := { program := "ytjghephnjkffcaagreat", sum := "f451fe703b29dd7fb9ef1406ba20d0710b197dfdb7cc78d15579bdb96a251469", func := "gangway/gangwaylaw13.TreeLinks", spec := "treeLinks", inPlace := ["internal/bytealg.IndexByteString", "internal/bytealg.abigen_runtime_cmpstring", "slices.overlaps[gangway/api.Name]"], unfollowed := true, recurses := true, apart := false, narrowed := true }
def TreeLinksUptoSaid : Prop := treeLinksUptoRow.holds Tryz.pinned (OpenSpec.upto treeLinksSpec)

/-- 'gangwaylaw13.TreeUnlinks', WHERE WHAT IT READS IS OF BULK AT MOST 1048576: true; the input reads as it did. -/
def treeUnlinksUptoRow : OpenClaim := { program := "ytjghephnjkffcaagreat", sum := "f451fe703b29dd7fb9ef1406ba20d0710b197dfdb7cc78d15579bdb96a251469", func := "gangway/gangwaylaw13.TreeUnlinks", spec := "treeUnlinks", inPlace := ["internal/bytealg.IndexByteString", "internal/bytealg.abigen_runtime_cmpstring", "slices.overlaps[gangway/api.Name]"], unfollowed := true, recurses := true, apart := false, narrowed := true }
def TreeUnlinksUptoSaid : Prop := treeUnlinksUptoRow.holds Tryz.pinned (OpenSpec.upto treeUnlinksSpec)

/-- 'gangwaylaw13.TreeRenames', WHERE WHAT IT READS IS OF BULK AT MOST 1048576: true; the input reads as it did. -/
def treeRenamesUptoRow : OpenClaim := { program := "ytjghephnjkffcaagreat", sum := "f451fe703b29dd7fb9ef1406ba20d0710b197dfdb7cc78d15579bdb96a251469", func := "gangway/gangwaylaw13.TreeRenames", spec := "treeRenames", inPlace := ["internal/bytealg.IndexByteString", "internal/bytealg.abigen_runtime_cmpstring", "slices.overlaps[gangway/api.Name]"], unfollowed := true, recurses := true, apart := false, narrowed := true }
def TreeRenamesUptoSaid : Prop := treeRenamesUptoRow.holds Tryz.pinned (OpenSpec.upto treeRenamesSpec)

/-- 'gangwaylaw13.TreeReads', WHERE WHAT IT READS IS OF BULK AT MOST 1048576: true; the input reads as it did. -/
def treeReadsUptoRow : OpenClaim := { program := "ytjghephnjkffcaagreat", sum := "f451fe703b29dd7fb9ef1406ba20d0710b197dfdb7cc78d15579bdb96a251469", func := "gangway/gangwaylaw13.TreeReads", spec := "treeReads", inPlace := ["internal/bytealg.IndexByteString", "internal/bytealg.abigen_runtime_cmpstring", "slices.overlaps[gangway/api.Name]"], unfollowed := true, recurses := true, apart := false, narrowed := true }
def TreeReadsUptoSaid : Prop := treeReadsUptoRow.holds Tryz.pinned (OpenSpec.upto treeReadsSpec)

/-- 'gangwaylaw13.TreeWrites', WHERE WHAT IT READS IS OF BULK AT MOST 1048576: true; the input reads as it did. -/
def treeWritesUptoRow : OpenClaim := { program := "ytjghephnjkffcaagreat", sum := "f451fe703b29dd7fb9ef1406ba20d0710b197dfdb7cc78d15579bdb96a251469", func := "gangway/gangwaylaw13.TreeWrites", spec := "treeWrites", inPlace := ["internal/bytealg.IndexByteString", "internal/bytealg.abigen_runtime_cmpstring", "slices.overlaps[gangway/api.Name]"], unfollowed := true, recurses := true, apart := false, narrowed := true }
def TreeWritesUptoSaid : Prop := treeWritesUptoRow.holds Tryz.pinned (OpenSpec.upto treeWritesSpec)

/-- 'gangwaylaw13.TreeFinds', WHERE WHAT IT READS IS OF BULK AT MOST 1048576: true; the input reads as it did. -/
def treeFindsUptoRow : OpenClaim := { program := "ytjghephnjkffcaagreat", sum := "f451fe703b29dd7fb9ef1406ba20d0710b197dfdb7cc78d15579bdb96a251469", func := "gangway/gangwaylaw13.TreeFinds", spec := "treeFinds", inPlace := ["internal/bytealg.IndexByteString", "internal/bytealg.abigen_runtime_cmpstring", "slices.overlaps[gangway/api.Name]"], unfollowed := true, recurses := true, apart := false, narrowed := true }
def TreeFindsUptoSaid : Prop := treeFindsUptoRow.holds Tryz.pinned (OpenSpec.upto treeFindsSpec)

/-- 'gangwaylaw13.TreeExact', WHERE WHAT IT READS IS OF BULK AT MOST 1048576: true; the input reads as it did. -/
def treeExactUptoRow : OpenClaim := { program := "ytjghephnjkffcaagreat", sum := "f451fe703b29dd7fb9ef1406ba20d0710b197dfdb7cc78d15579bdb96a251469", func := "gangway/gangwaylaw13.TreeExact", spec := "treeExact", inPlace := ["internal/bytealg.IndexByteString", "internal/bytealg.abigen_runtime_cmpstring", "slices.overlaps[gangway/api.Name]"], unfollowed := true, recurses := true, apart := false, narrowed := true }
def TreeExactUptoSaid : Prop := treeExactUptoRow.holds Tryz.pinned (OpenSpec.upto treeExactSpec)

end Rows
end Go.Proofs.YtjghephnjkffcaaGreat
