/- Parts of one proof, merged by merge.py of this repo: walks over the given program and plain facts, used by the law of the file YtjghephnjkffcaaCTreeData. -/
import Derived.Test.YtjghephnjkffcaaMTreeData5
import Derived.Test.YtjghephnjkffcaaMTreeData10
import Derived.Test.YtjghephnjkffcaaMTreeData13
import Derived.Test.YtjghephnjkffcaaMTreeData14
import Derived.Test.YtjghephnjkffcaaMTreeData8
import Derived.Test.YtjghephnjkffcaaMTreeData11
import Derived.Test.YtjghephnjkffcaaMTreeData12
import Derived.Test.YtjghephnjkffcaaMTreeData4
import Derived.Test.YtjghephnjkffcaaMTreeData6
namespace Go.Proofs.Ytjghephnjkffcaa.PCk
open Go.RowKit Go.Proofs.YtjghephnjkffcaaW.PrintWords Go.Proofs.YtjghephnjkffcaaW.PrintLast Go.Proofs.YtjghephnjkffcaaW.PrintMore
attribute [local go_sem] max2_int min2_int max_two min_two max_three min_three max_four min_four
set_option linter.unusedVariables false
set_option linter.unusedSimpArgs false
-- IMPORT: Derived.Test.@N@DDataops
-- IMPORT: Derived.Test.@N@DLawdata
-- IMPORT: Derived.Test.@N@DLiswithin
-- IMPORT: Derived.Test.@N@DCommon
-- IMPORT: Derived.Test.@N@OpensCk
theorem within_ok (a : Int) : ∃ t : Nat, gangwaylaw0_Within.f a 16394 = some (t : Int) ∧ t < 16394 := by
  have e : IntKind.u64.wrap 16394 = 16394 := by decide
  have h0 : 0 ≤ IntKind.u64.wrap a := by unfold IntKind.wrap; exact Int.emod_nonneg a (by decide)
  refine ⟨(Int.tmod (IntKind.u64.wrap a) 16394).toNat, ?_, ?_⟩
  · unfold gangwaylaw0_Within.f
    rw [e, if_neg (by decide), Int.tmod_eq_emod_of_nonneg h0]
    have h1 := Int.emod_nonneg (IntKind.u64.wrap a) (show (16394 : Int) ≠ 0 by decide)
    have h2 := Int.emod_lt_of_pos (IntKind.u64.wrap a) (show (0 : Int) < 16394 by decide)
    unfold wrap64
    congr 1
    omega
  · rw [Int.tmod_eq_emod_of_nonneg h0]
    have h1 := Int.emod_nonneg (IntKind.u64.wrap a) (show (16394 : Int) ≠ 0 by decide)
    have h2 := Int.emod_lt_of_pos (IntKind.u64.wrap a) (show (0 : Int) < 16394 by decide)
    omega
theorem data_at (l : List S45) (hl : l.length < 1599289640401) (hf : Fits l) (hm : Ev (fun k => tree_May.f k l) true) (a : S38) (ha : a.f10.length < 140737488355328) : ∃ K, ∀ k, K ≤ k → DataAt k l a := by
  obtain ⟨is, his, hir⟩ : ∃ is, gangwayref13_Is.f l a.f1 = some is ∧ (is = true → 0 ≤ a.f1 ∧ a.f1 < (l.length : Int)) := by
    unfold gangwayref13_Is.f
    by_cases h1 : a.f1 ≥ 0
    · by_cases h2 : a.f1 < (l.length : Int)
      · exact ⟨_, by rw [if_pos h1, if_pos h2, if_pos h1], fun _ => ⟨h1, h2⟩⟩
      · exact ⟨_, by rw [if_pos h1, if_neg h2], fun h => by cases h⟩
    · exact ⟨_, by rw [if_neg h1], fun h => by cases h⟩
  obtain ⟨ti, hti, htp⟩ := page_time a.f11
  by_cases hc : is = true ∧ (rd_T45 l a.f1).f0 = 1 ∧ ti = true
  · obtain ⟨hc1, hk, hc3⟩ := hc
    obtain ⟨hn0, hn1⟩ := hir hc1
    have ht := htp.1 hc3
    obtain ⟨n, hn⟩ : ∃ n : Nat, a.f1 = (n : Int) := ⟨a.f1.toNat, by omega⟩
    rw [hn] at hk hn1
    have hn1 : n < l.length := by omega
    obtain ⟨t, hw, ht1⟩ := within_ok a.f8
    obtain ⟨K1, h1⟩ := write_ev hl hf hm n hn1 hk (t : Int) (by omega) a.f10 a.f11 ht
    have hold : (rd_T45 l (n : Int)).f1.length ≤ 16384 := by
      rcases (may_nodes hf hm n hn1).1 with q | q | q | q
      · rw [hk] at q; exact absurd q.1 (by decide)
      · exact q.2.2.1
      · rw [hk] at q; exact absurd q.1 (by decide)
      · rw [hk] at q; exact absurd q.1 (by decide)
    have hwe : writeW (t : Int) a.f10 = if (t : Int) + (a.f10.length : Int) ≤ 16384 then 0 else 22 := by
      unfold writeW
      by_cases q : (t : Int) + (a.f10.length : Int) ≤ 16384
      · rw [if_pos q, if_neg (by omega), if_neg (by omega)]
      · rw [if_neg q]
        by_cases q2 : 16384 < (t : Int)
        · rw [if_pos q2]
        · rw [if_neg q2, if_pos (by omega)]
    by_cases hb : (t : Int) + (a.f10.length : Int) ≤ 16384 ∧ a.f10.length ≠ 0
    · have hD := wroteB_len (rd_T45 l (n : Int)).f1 t a.f10
      have hDl : (wroteB (rd_T45 l (n : Int)).f1 t a.f10).length ≤ 16384 := by rw [hD]; omega
      obtain ⟨hf', hm'⟩ := may_data hf hm n hn1 hk (wroteB (rd_T45 l (n : Int)).f1 t a.f10) hDl a.f11 ht
      have hlu := wroteT_len l n (wroteB (rd_T45 l (n : Int)).f1 t a.f10) a.f11
      have hru := wroteT_rd l n hn1 (wroteB (rd_T45 l (n : Int)).f1 t a.f10) a.f11
      have htw := wroteT_twice l n hn1 (wroteB (rd_T45 l (n : Int)).f1 t a.f10) a.f11
      rw [if_pos ⟨by rw [hwe, if_pos hb.1], hb.2⟩, hwe, if_pos hb.1, Int.toNat_natCast] at h1
      change Fits (wroteT l n (wroteB (rd_T45 l (n : Int)).f1 t a.f10) a.f11) at hf'
      change Ev (fun k => tree_May.f k (wroteT l n (wroteB (rd_T45 l (n : Int)).f1 t a.f10) a.f11)) true at hm'
      have hrd := wroteB_rd (rd_T45 l (n : Int)).f1 t a.f10
      have hrb := readL_wrote (rd_T45 l (n : Int)).f1 t a.f10 (by omega)
      generalize wroteB (rd_T45 l (n : Int)).f1 t a.f10 = D at *
      generalize wroteT l n D a.f11 = u at *
      have hku : (rd_T45 u (n : Int)).f0 = 1 := by rw [hru]; exact hk
      have hdu : (rd_T45 u (n : Int)).f1 = D := by rw [hru]
      obtain ⟨K2, h2⟩ := read_ev hf' hm' n (by omega) hku (t : Int) (a.f10.length : Int) (by omega) (by omega)
      obtain ⟨K3, h3⟩ := read_ev hf' hm' n (by omega) hku 0 16384 (by omega) (by omega)
      obtain ⟨K4, h4⟩ := cut_ev (by omega) hf' hm' n (by omega) hku D.length hDl a.f11 ht
      obtain ⟨K5, h5⟩ := (eqBytes a.f10 a.f10 (by omega)).out rfl
      obtain ⟨K6, h6⟩ := (eqTree u u (by omega) hf'.n).out rfl
      rw [hdu, Int.toNat_natCast, Int.toNat_natCast, hrb] at h2
      rw [hdu, show (0 : Int).toNat = 0 from rfl, show (16384 : Int).toNat = 16384 from rfl, readL_all D 16384 hDl] at h3
      rw [hdu, sizedL_same, htw] at h4
      refine ⟨K1 + K2 + K3 + K4 + K5 + K6, fun k hk' => ⟨ha, is, ti, his, hti, hir, fun _ _ _ => ⟨(t : Int), u, 0, hw, by omega, by omega, ?_, by rw [if_pos hb.1], fun _ _ => ⟨D, u, ?_, ?_, h5 k (by omega), ?_, hDl, ?_, ?_, h6 k (by omega)⟩⟩⟩⟩
      · rw [hn]; exact h1 k (by omega)
      · rw [hn]; exact h2 k (by omega)
      · rw [hn]; exact h3 k (by omega)
      · rw [hn, Int.toNat_natCast]; exact hD
      · rw [hn, Int.toNat_natCast]; exact fun i hi ho => hrd i (by omega) ho
      · rw [hn]; exact h4 k (by omega)
    · refine ⟨K1, fun k hk' => ⟨ha, is, ti, his, hti, hir, fun _ _ _ => ⟨(t : Int), _, _, hw, by omega, by omega, by rw [hn]; exact h1 k hk', hwe, fun he hb' => ?_⟩⟩⟩
      rw [hwe] at he
      exact absurd ⟨Decidable.not_not.1 (fun q => by rw [if_neg q] at he; cases he), hb'⟩ hb
  · exact ⟨0, fun k _ => ⟨ha, is, ti, his, hti, hir, fun h1 h2 h3 => absurd ⟨h1, h2, h3⟩ hc⟩⟩
theorem data_facts (l : List S45) (q : List S38) (h : ok27 (l, q)) : ∃ (k : Nat) (hv m : Bool), gangwaylaw13_Heavy.f k l q = some hv ∧ (hv = false → gangwayref13_May.f k l = some m) ∧ (hv = false → m = true → gangwaylaw13_wakes.f k = some true ∧ ∀ n : Nat, n < q.length → DataAt k l (rd_T38 q (n : Int))) := by
  obtain ⟨hl, hf⟩ := fits_of (l := l) h.1
  obtain ⟨hq1, hq2, hq3⟩ := h.2
  change q.length * 128 ≤ 140737488351232 at hq2
  obtain ⟨hv, ⟨K1, hH⟩, _⟩ := heavy_ev l (by omega) q (by omega)
  obtain ⟨m, hT, ⟨K3, hM⟩⟩ := may_both l hf
  obtain ⟨K6, hW⟩ := wakes_ev
  cases m with
  | false => exact ⟨K1 + K3 + K6, hv, false, hH _ (by omega), fun _ => hM _ (by omega), fun _ h => by cases h⟩
  | true =>
    obtain ⟨K7, hN⟩ := ev_all (P := fun n k => n < q.length → DataAt k l (rd_T38 q (n : Int))) (fun n => by
      by_cases hn : n < q.length
      · have hm : rd_T38 q (n : Int) ∈ q := by
          show q.getD (n : Int).toNat _ ∈ q
          rw [Int.toNat_natCast, List.getD_eq_getElem?_getD, List.getElem?_eq_getElem hn]; exact List.getElem_mem _
        obtain ⟨_, _, _, _, _, _, _, _, _, _, hb, _⟩ := hq3 _ hm
        have hb2 := hb.2.1
        obtain ⟨K, hK⟩ := data_at l hl hf hT _ (show (rd_T38 q (n : Int)).f10.length < 140737488355328 by omega)
        exact ⟨K, fun k hk _ => hK k hk⟩
      · exact ⟨0, fun k _ h => absurd h hn⟩) q.length
    exact ⟨K1 + K3 + K6 + K7, hv, true, hH _ (by omega), fun _ => hM _ (by omega), fun _ _ => ⟨hW _ (by omega), fun n hn => hN _ (by omega) n hn hn⟩⟩
theorem treeData_row (cs : Array Value) (x : List S45 × List S38) (w : World) (h : ok27 x) (hk : (Kd.pair (Kd.slice 45 k45) (Kd.slice 38 k38)).K w x cs.toList) :
    Calls Try.prog 5 #[.agg cs] w fun e w' => e = .returned (.bool true) ∧ Below w.heap.size w w' := by
  obtain ⟨l, q⟩ := x
  obtain ⟨c1, c2, e, ⟨A0, c0, rfl, hl0, h0⟩, ⟨A1, c1, rfl, hl1, h1⟩⟩ := hk
  obtain rfl : cs = #[.slice A0 l.length c0, .slice A1 q.length c1] := Array.ext' e
  obtain ⟨k, hv, m, hH, hM, hT⟩ := data_facts l q h
  exact gangwaylaw13_TreeData.walk k A0 c0 l A1 c1 q w h0 hl0 h1 hl1 hv m hH hM hT

end Go.Proofs.Ytjghephnjkffcaa.PCk
