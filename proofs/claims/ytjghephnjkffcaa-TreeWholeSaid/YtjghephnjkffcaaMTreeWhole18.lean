/- Parts of one proof, merged by a program of this repo: walks over the given program and plain facts. -/
import Derived.Test.YtjghephnjkffcaaMTreeWhole5
import Derived.Test.YtjghephnjkffcaaMTreeWhole10
import Derived.Test.YtjghephnjkffcaaMTreeWhole17
import Derived.Test.YtjghephnjkffcaaMTreeWhole8
import Derived.Test.YtjghephnjkffcaaMTreeWhole11
import Derived.Test.YtjghephnjkffcaaMTreeWhole4
namespace Go.Proofs.Ytjghephnjkffcaa.PCk
open Go.RowKit Go.Proofs.YtjghephnjkffcaaW.PrintWords Go.Proofs.YtjghephnjkffcaaW.PrintLast Go.Proofs.YtjghephnjkffcaaW.PrintMore
attribute [local go_sem] zbV zbT zci zch zbG zbF zbU zbS
set_option linter.unusedVariables false
set_option linter.unusedSimpArgs false
theorem whole_facts (l : List S45) (q : List S38) (h : ok27 (l, q)) : ∃ (k : Nat) (hv m : Bool), zaX.f k l q = some hv ∧ (hv = false → zau.f k l = some m) ∧ (hv = false → m = true → za4.f k = some true ∧ zbj.f k l = some l ∧ MayP l) := by
 obtain ⟨hl, hf⟩ := fits_of (l := l) h.1
 obtain ⟨hq1, hq2, hq3⟩ := h.2
 change q.length * 128 ≤ 140737488351232 at hq2
 obtain ⟨hv, ⟨K1, hH⟩, _⟩ := heavy_ev l (by omega) q (by omega)
 obtain ⟨m, hT, ⟨K3, hM⟩⟩ := may_both l hf
 obtain ⟨K6, hW⟩ := wakes_ev
 cases m with
 | false => exact ⟨K1 + K3 + K6, hv, false, hH _ (by omega), fun _ => hM _ (by omega), fun _ h => by (cases h)⟩
 | true =>
  have hMP := of_may hf hT
  obtain ⟨K7, hC⟩ := copyTree l hl hf.n
  exact ⟨K1 + K3 + K6 + K7, hv, true, hH _ (by omega), fun _ => hM _ (by omega), fun _ _ => ⟨hW _ (by omega), hC _ (by omega), hMP⟩⟩
theorem treeWhole_row (cs : Array Value) (x : List S45 × List S38) (w : World) (h : ok27 x) (hk : (Kd.pair (Kd.slice 45 k45) (Kd.slice 38 k38)).K w x cs.toList) :
  Calls Try.prog 7 #[.agg cs] w fun e w' => e = .returned (.bool true) ∧ Below w.heap.size w w' := by
 obtain ⟨l, q⟩ := x
 obtain ⟨c1, c2, e, ⟨A0, c0, rfl, hl0, h0⟩, ⟨A1, c1, rfl, hl1, h1⟩⟩ := hk
 obtain rfl : cs = #[.slice A0 l.length c0, .slice A1 q.length c1] := Array.ext' e
 obtain ⟨k, hv, m, hH, hM, hT⟩ := whole_facts l q h
 exact gangwaylaw13_TreeWhole.walk k A0 c0 l A1 c1 q w h0 hl0 h1 hl1 hv m hH hM hT
end Go.Proofs.Ytjghephnjkffcaa.PCk
