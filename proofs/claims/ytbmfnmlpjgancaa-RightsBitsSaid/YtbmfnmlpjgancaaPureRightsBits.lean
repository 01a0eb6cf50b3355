/- The pure statement of RightsBits: what the walk's Lean function answers. -/
import Derived.Test.YtbmfnmlpjgancaaPRightsBitsx2
import Derived.Test.YtbmfnmlpjgancaaOpensRightsBits
namespace Go.Proofs.Ytbmfnmlpjgancaa.PRightsBits
open Go.RowKit Go.Proofs.YtbmfnmlpjgancaaW.PrintWords Go.Proofs.YtbmfnmlpjgancaaW.PrintLast

set_option maxRecDepth 100000 in
theorem loops (l : List (S24)) : gangwaylaw17_RightsBits.l0 1500 l 0 = gangwaylaw17_RightsBits.l2 539 l 1 := by kernel_rfl

set_option maxRecDepth 100000 in
theorem tail (l : List (S24)) : gangwaylaw17_RightsBits.l2 539 l 1 = (if (l.length : Int) ≥ 0 then ((gangwaylaw17_wakes.f 533).bind fun t => some t) else some false) := by kernel_rfl

set_option maxRecDepth 100000 in
theorem awake : gangwaylaw17_wakes.f 533 = some true := by kernel_rfl

theorem pure (l : List (S24)) (_h : ok22 l) : ∃ k, gangwaylaw17_RightsBits.f k l = some true := by
  refine ⟨1500, ?_⟩
  show gangwaylaw17_RightsBits.l0 1500 l 0 = some true
  rw [loops, tail, if_pos (Int.natCast_nonneg _), awake]
  rfl

end Go.Proofs.Ytbmfnmlpjgancaa.PRightsBits
