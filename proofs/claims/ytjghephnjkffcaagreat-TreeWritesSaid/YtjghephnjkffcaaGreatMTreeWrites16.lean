/- Parts of one proof, merged by a program of this repo: walks over the given program and plain facts. -/
import Derived.Test.YtjghephnjkffcaaGreatMTreeWrites10
import Derived.Test.YtjghephnjkffcaaGreatMTreeWrites15
import Derived.Test.YtjghephnjkffcaaGreatMTreeWrites13
import Derived.Test.YtjghephnjkffcaaGreatMTreeWrites4
import Derived.Test.YtjghephnjkffcaaGreatMTreeWrites8
namespace Go.Proofs.YtjghephnjkffcaaGreat.PAll
open Go.RowKit Go.Proofs.YtjghephnjkffcaaGreatW.PrintWords Go.Proofs.YtjghephnjkffcaaGreatW.PrintLast Go.Proofs.YtjghephnjkffcaaGreatW.PrintMore
attribute [local go_sem] zb2 zb0 zcn zcm zbF zbE zb1 zbZ
set_option linter.unusedVariables false
set_option linter.unusedSimpArgs false
theorem writes_facts (l : List S40) (q : List S44) (h : ok27 (l, q)) : ∃ (k : Nat) (hv : Bool), zaV.f k l q = some hv ∧ (hv = false → za2.f k = some true ∧ ∀ n : Nat, n < q.length → WritesAt k l (zaU q (n : Int)).f1 (zaU q (n : Int)).f2 (zaU q (n : Int)).f8 (zaU q (n : Int)).f10 (zaU q (n : Int)).f11) := by
 obtain ⟨hl, hf⟩ := fits_of (l := l) h.1
 obtain ⟨hq1, hq2, hq3⟩ := h.2
 change q.length * 128 ≤ 140737488351232 at hq2
 obtain ⟨hv, ⟨K1, hH⟩, _⟩ := heavy_ev l (by omega) q (by omega)
 obtain ⟨K6, hW⟩ := wakes_ev
 obtain ⟨K7, hN⟩ := ev_all (P := fun n k => n < q.length → WritesAt k l (zaU q (n : Int)).f1 (zaU q (n : Int)).f2 (zaU q (n : Int)).f8 (zaU q (n : Int)).f10 (zaU q (n : Int)).f11) (fun n => by
  by_cases hn : n < q.length
  ·have hm : zaU q (n : Int) ∈ q := by
    show q.getD (n : Int).toNat _ ∈ q
    rw [Int.toNat_natCast, List.getD_eq_getElem?_getD, List.getElem?_eq_getElem hn]; exact List.getElem_mem _
   obtain ⟨_, _, _, _, hs, hs0, _, _, _, _, hb0, _⟩ := hq3 _ hm
   have hb10 : (zaU q (n : Int)).f10.length < 140737488355328 := by have h2 : (zaU q (n : Int)).f10.length * 1 ≤ 140737488351232 := hb0.2.1; omega
   obtain ⟨K, hK⟩ := writes_at hl hf (zaU q (n : Int)).f1 (zaU q (n : Int)).f2 (zaU q (n : Int)).f8 (zaU q (n : Int)).f10 hb10 (zaU q (n : Int)).f11
   exact ⟨K, fun k hk _ => hK k hk⟩
  ·exact ⟨0, fun k _ h => absurd h hn⟩) q.length
 exact ⟨K1 + K6 + K7, hv, hH _ (by omega), fun _ => ⟨hW _ (by omega), fun n hn => hN _ (by omega) n hn hn⟩⟩
set_option maxHeartbeats 4000000 in
set_option maxRecDepth 100000 in
theorem treeWrites_row (cs : Array Value) (x : List S40 × List S44) (w : World) (h : ok27 x) (hk : (Kd.pair (Kd.slice 40 k40) (Kd.slice 44 k44)).K w x cs.toList) :
  Calls Tryz.prog 8 #[.agg cs] w fun e w' => e = .returned (.bool true) ∧ Below w.heap.size w w' := by
 obtain ⟨l, q⟩ := x
 obtain ⟨c1, c2, e, ⟨A0, c0, rfl, hl0, h0⟩, ⟨A1, c1, rfl, hl1, h1⟩⟩ := hk
 obtain rfl : cs = #[.slice A0 l.length c0, .slice A1 q.length c1] := Array.ext' e
 obtain ⟨k, hv, hH, hT⟩ := writes_facts l q h
 have HB := zaa.mk (zad (Below.refl w.heap.size w) (.cells #[.slice A0 l.length c0, .slice A1 q.length c1] 27))
 have HO := zaa.mk (gangwaylaw13_only.write k A0 c0 l A1 c1 q _ (Kd.C_below h0 HB.out) hl0 (Kd.C_below h1 HB.out) hl1 hv hH hT)
 have hus := Tryz.underlying27
 clear h hl0 h0 hl1 h1 hH hT e
 go_enter Tryz.func8, Tryz.ntmps8
 go_wp2_with (first | (go_at_call 11; refine HO.out.mono ?_; rintro e' w1 ⟨rfl, hb⟩; have HB1 := zaa.mk (zam HB.out hb); clear hb))
 go_ret
 exact ⟨rfl, HB1.out⟩
end Go.Proofs.YtjghephnjkffcaaGreat.PAll
