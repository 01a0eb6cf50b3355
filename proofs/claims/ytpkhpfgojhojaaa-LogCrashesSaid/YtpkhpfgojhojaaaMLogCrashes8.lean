/- Parts of one proof, merged by merge.py of this repo: walks over the given program and plain facts, used by the law of the file YtpkhpfgojhojaaaCLogCrashes. -/
import Derived.Test.YtpkhpfgojhojaaaMLogCrashes6
import Derived.Test.YtpkhpfgojhojaaaMLogCrashes3
import Derived.Test.YtpkhpfgojhojaaaMLogCrashes5
import Derived.Test.YtpkhpfgojhojaaaMLogCrashes4
import Derived.Test.YtpkhpfgojhojaaaMLogCrashes7
import Derived.Test.YtpkhpfgojhojaaaMLogCrashes2
namespace Go.Proofs.Ytpkhpfgojhojaaa.PLg
open Go.RowKit Go.Proofs.YtpkhpfgojhojaaaW.PrintWords Go.Proofs.YtpkhpfgojhojaaaW.PrintLast Go.Proofs.YtpkhpfgojhojaaaW.PrintMore
attribute [local go_sem] max2_int min2_int max_two min_two max_three min_three max_four min_four
set_option linter.unusedVariables false
set_option linter.unusedSimpArgs false
-- FUNCTION: gangway/gangwaylaw12.LogCrashes
-- IMPORT: Derived.Test.@N@WOwn
-- IMPORT: Derived.Test.@N@DLcrwords
theorem wf_small (n : Int) (h0 : 0 ≤ n) (h1 : n ≤ 100) : (Lit.int .i64 n).wf = true := by
  have h := wrap64_wf n
  rwa [w64 n (by omega)] at h
set_option maxHeartbeats 32000000 in
set_option maxRecDepth 100000 in
theorem gangwaylaw12_LogCrashes.walk (a0 : Int) (A1 A2 : Option Addr) (c1 c2 : Nat) (l1 : List S45) (l2 : List S65) (w : World) (h1 : Kd.C k45 w A1 l1.length l1) (hc1 : l1.length ≤ c1) (h2 : Kd.C k65 w A2 l2.length l2) (hc2 : l2.length ≤ c2) (hw1 : ∀ t ∈ l1, (Lit.int .i64 t.f0).wf = true) (hw2 : ∀ x ∈ l2, x.f2.length ≤ 140737488351232 ∧ x.f3.length ≤ 140737488351232) :
    Calls Try.prog 8 #[.agg #[.int .i64 a0, .slice A1 l1.length c1, .slice A2 l2.length c2]] w fun e w' => e = .returned (.bool true) ∧ Below w.heap.size w w' := by
  have H1 := Aside0.mk h1
  have H2 := Aside0.mk h2
  have HC1 := Aside0.mk hc1
  have HC2 := Aside0.mk hc2
  have HW1 := Aside0.mk hw1
  obtain ⟨k, hv, hhv⟩ := heavy_ex a0 l1 l2
  have HHE := Aside0.mk hhv
  have hmax := h2.2.1
  have hmax1 := h1.2.1
  have hus := Try.underlying60
  have hua := Try.underlying65
  have hut := Try.underlying45
  have HNH : Aside0 (hv = false → ∀ j, j < 25 → j < l2.length → (l2.getD j z65).f2.length ≤ 8000) := ⟨fun h => not_heavy hw2 (h ▸ hhv)⟩
  have HB0 := Aside0.mk (below_alloc (Below.refl w.heap.size w) (.cells #[.int .i64 a0, .slice A1 l1.length c1, .slice A2 l2.length c2] 60))
  have HS0 := Aside0.mk (blk_new w (.cells #[.int .i64 a0, .slice A1 l1.length c1, .slice A2 l2.length c2] 60))
  clear h1 h2 hc1 hc2 hhv hw1 hw2
  cases hv
  all_goals
    go_enter Try.func8, Try.ntmps8
    go_wp2_with fail
    refine (gangwaylaw12_heavy.calls k a0 A1 c1 l1 A2 c2 l2 _ _ (Kd.C_alloc H1.out _) HC1.out (Kd.C_alloc H2.out _) HC2.out HHE.out).mono ?_
    rintro e' w1 ⟨rfl, hb⟩
    have HB1 := Aside0.mk (below_step HB0.out hb)
    have HS1 := Aside0.mk (blk_below HS0.out hb)
    clear hb HB0 HS0
  · have HHV := Aside0.mk (HNH.out (by first | rfl | trivial))
    have hs1 := (blk_cell HS1.out 1).trans rfl
    go_wp2
    go_loopw [3] (fun v3 w' => ∃ (i : Nat), i ≤ l1.length ∧ v3 = .int .i64 i ∧ w' = w1 ∧ Aside0 (∀ j, j < i → 1 ≤ (l1.getD j z45).f0)) (fun v3 _ => l1.length - (intOf v3).toNat)
    case atStart => exact ⟨0, Nat.zero_le _, rfl, rfl, ⟨fun j hj => absurd hj (Nat.not_lt_zero _)⟩⟩
    case round =>
      obtain ⟨i, hi, rfl, rfl, HT⟩ := hrel
      by_cases hlt : i < l1.length
      · obtain ⟨ad, cz, e, _, hK, hcz⟩ := Kd.C_get H1.out z45 (i : Int) (by omega) (by omega)
        rw [Int.toNat_natCast] at hK hcz
        obtain rfl := k45_open hK
        subst e
        have hx0 : wr.cell? (ad.add (i * 1)) = some (.int .i64 (l1.getD i z45).f0) := (HB1.out.cell (World.block_lt_of_cell? _ _ (hcz 0 _ rfl))).trans (hcz 0 _ rfl)
        rw [Nat.mul_one] at hx0
        obtain ⟨t, ht⟩ : ∃ t, t = (l1.getD i z45).f0 := ⟨_, rfl⟩
        rw [← ht] at hx0
        have HTT := Aside0.mk ht
        clear hcz hK ht
        by_cases ht1 : t < 1
        · have t1 : decide (t < 1) = true := decide_eq_true ht1
          clear ht1
          go_wp2
          go_ret
          exact ⟨rfl, HB1.out⟩
        · have t1 : decide (t < 1) = false := decide_eq_false ht1
          have HT1 := Aside0.mk ht1
          clear ht1
          go_wp2
          go_roundw
          case rel => exact ⟨i + 1, by omega, by go_num, by first | rfl | trivial, ⟨fun j hj => by
            rcases Nat.lt_or_ge j i with h | h
            · exact HT.out j h
            · obtain rfl : j = i := by omega
              rw [← HTT.out]; have := HT1.out; omega⟩⟩
          case measure => simp [intOf]; omega
      · have hge : decide (i < l1.length) = false := decide_eq_false hlt
        have HT1 : Aside0 (∀ t ∈ l1, 1 ≤ t.f0) := ⟨fun t ht => by
          obtain ⟨j, hj, rfl⟩ := List.getElem_of_mem ht
          have := HT.out j (by omega)
          rw [List.getD_eq_getElem?_getD, List.getElem?_eq_getElem hj] at this
          exact this⟩
        obtain ⟨w1, rfl⟩ : ∃ W : World, W = wr := ⟨_, rfl⟩
        clear hlt HT hi
        go_wp2_with fail
        refine (lg_Disk 200 (by decide) (by decide) A1 c1 l1.length l1 _ (Kd.C_below H1.out HB1.out) HW1.out HT1.out).mono ?_
        rintro e' w2 ⟨d, rfl, hd, hb⟩
        have HD2 := Aside0.mk (hd.bound.mono (ok' := fun k => w1.heap.size ≤ k ∧ k < w2.heap.size) (fun k hk => ⟨hk.2.1, hk.2.2⟩))
        have HW : Aside0 (w.heap.size < w1.heap.size) := ⟨blk_lt HS1.out⟩
        have HN2 := Aside0.mk hb.size
        have HB2 := Aside0.mk (below_step HB1.out hb)
        have HS2 := Aside0.mk (blk_below HS1.out hb)
        clear hd hb hs1
        obtain ⟨nb, hnb⟩ : ∃ nb, nb = w1.heap.size := ⟨_, rfl⟩
        rw [← hnb] at HD2 HW HN2
        have hb : Below w2.heap.size w2 (w2.alloc (.cells #[.slice none 0 0] 63)) := below_alloc (Below.refl _ _) _
        have HD3 := Aside0.mk (HD2.out.below hb)
        have HC3 := Aside0.mk (R_one (e := 63) (okp := fun _ => False) (ok := fun k => k = w2.heap.size) (Kd.slice 30 (Kd.slice 5 (Kd.int .u8))) rfl (p := []) (Kd.M_row (Kd.R_nil (Kd.slice 5 (Kd.int .u8)) 30 w2 nb (fun _ => False))) (fun _ h => h.elim) rfl HN2.out)
        have HB3 := Aside0.mk (below_step HB2.out hb)
        have HS3 := Aside0.mk (blk_below HS2.out hb)
        have HN3 := Aside0.mk (Nat.le_trans HN2.out hb.size)
        have HM3 : Aside0 (w2.heap.size < (w2.alloc (.cells #[.slice none 0 0] 63)).heap.size) := ⟨by rw [World.size_alloc]; omega⟩
        clear hb hnb
        go_wp2_with fail
        have hFS := fine_start l1
        refine (lg_Open d _ nb _ (Dk.new (List.replicate (200 * 64) 0) l1) 0 [] (layP []) HD3.out HN3.out rfl (by show 128 ≤ (List.replicate (200 * 64) (0 : Int)).length; rw [List.length_replicate]; decide) (holds_opens (holds_zero 200 (by decide))) (lays [] (by decide))).mono ?_
        rintro e' w4 ⟨g, NN, v, rfl, hlg, hN, hN2, hS, hb⟩
        obtain ⟨Av, cv, rfl⟩ := Kd.S_slice hS
        obtain ⟨y0, hy0⟩ : ∃ y0, y0 = Dk.new (List.replicate (200 * 64) 0) l1 := ⟨_, rfl⟩
        rw [← hy0] at hlg hFS
        obtain ⟨P, hP⟩ : ∃ Q : Nat → Prop, Q = fun k => ((nb ≤ k ∧ k < w2.heap.size) ∨ (w2.alloc (.cells #[.slice none 0 0] 63)).heap.size ≤ k) ∧ k < NN := ⟨_, rfl⟩
        have HL4 : Aside0 (LgAt w4 nb P g d ⟨y0, 0, [], true⟩) := ⟨by rw [hP]; exact hlg.mono (fun k hk => ⟨hk.1, hk.2⟩)⟩
        have HP4 : Aside0 (∀ k, P k → k < w4.heap.size) := ⟨fun k hk => by rw [hP] at hk; have := hk.2; omega⟩
        have HF0 := Aside0.mk hFS
        have HC4 := Aside0.mk (Kd.R_mono (Kd.R_below HC3.out hb) (ok' := fun k => ¬ P k) (fun k hk h => by
          subst hk
          rw [hP] at h
          have := HM3.out
          exact h.1.elim (fun q => by omega) (fun q => by omega)))
        have HB4 := Aside0.mk (below_step HB3.out hb)
        have HS4 := Aside0.mk (blk_below HS3.out hb)
        have HN4 := Aside0.mk (Nat.le_trans HN3.out hb.size)
        clear hlg hN hN2 hS hb hFS hy0 hP
        go_wp2_with (first | (go_at_call 35; refine (lg_num _ _).mono ?_; rintro e' w' ⟨rfl, rfl⟩))
        go_loopw [5, 6, 9, 10] (fun v5 v6 v9 v10 w' => ∃ (i : Nat) (c : Int) (P : Nat → Prop) (y : Dk) (nr : Int) (rs0 rs : List (List Int)) (fr : Bool) (cans : List (List (List Int))), i ≤ 25 ∧ i ≤ l2.length ∧ v9 = .int .i64 c ∧ v10 = .int .i64 i ∧ Aside0 (LgAt w' nb P g d ⟨y, nr, rs, fr⟩) ∧ Aside0 (∀ k, P k → k < w'.heap.size) ∧ Aside0 (Kd.R (Kd.slice 5 (Kd.int .u8)) 30 w' nb (fun k => ¬ P k) v5 rs) ∧ Aside0 (Kd.R (Kd.slice 30 (Kd.slice 5 (Kd.int .u8))) 63 w' nb (fun k => ¬ P k) v6 cans) ∧ Aside0 (Fine c y nr rs0 rs fr cans) ∧ Aside0 (cans.length ≤ i + 1) ∧ Aside0 (c = 0 → nr ≤ (i : Int)) ∧ Aside0 (w'.heap[w.heap.size]? = some (.cells #[.int .i64 a0, .slice A1 l1.length c1, .slice A2 l2.length c2] 60 (0, 0))) ∧ Aside0 (Below w.heap.size w w') ∧ Aside0 (nb ≤ w'.heap.size)) (fun _ _ _ v10 _ => 25 - (intOf v10).toNat)
        case atStart => exact ⟨0, 0, P, y0, 0, [], [], true, [[]], Nat.zero_le _, Nat.zero_le _, rfl, rfl, HL4, HP4, ⟨Kd.R_nil _ _ _ _ _⟩, HC4, HF0, ⟨Nat.le_refl _⟩, ⟨fun _ => Int.le_refl _⟩, HS4, HB4, HN4⟩
        case round =>
          clear HL4 HP4 HF0 HC4 HB4 HS4 HN4 HC3 HB3 HS3 HN3 HM3 HD3 HB2 HS2 HN2 HD2
          obtain ⟨i, c, P, y, nr, rs0, rs, fr, cans, h25', hi, rfl, rfl, HL0, HP0, HV0, HC0, HF, HCL, HNR, HS0, HB0, HN0⟩ := hrel
          have hs2 := (blk_cell HS0.out 2).trans rfl
          obtain ⟨An, cn, rfl⟩ := Kd.R_slice HV0.out
          obtain ⟨Ac, cc, rfl⟩ := Kd.R_slice HC0.out
          have hq : (¬ i < l2.length ∨ (i < l2.length ∧ ¬ i < 25) ∨ (i < l2.length ∧ i < 25 ∧ c = 103)) ∨ (i < l2.length ∧ i < 25 ∧ c = 0) := by
            have hc : c = 0 ∨ c = 103 := by
              obtain ⟨_, _, h | h⟩ := HF.out
              · exact .inl h.1
              · exact .inr h.1
            rcases hc with h | h <;> by_cases p1 : i < l2.length <;> by_cases p2 : i < 25 <;> simp [h, p1, p2]
          rcases hq with hq | ⟨hlt, h25, rfl⟩
          · rcases hq with h | ⟨h1, h2⟩ | ⟨h1, h2, rfl⟩
            · have hge : decide (i < l2.length) = false := decide_eq_false h
              clear h
              go_wp2_with (first | (go_at_call 35; refine (lg_num _ _).mono ?_; rintro e' w' ⟨rfl, rfl⟩))
              obtain ⟨okd, hdk⟩ := HL0.out.disk
              have HDK := Aside0.mk hdk
              have HLV0 := Aside0.mk (fine_leaves HF.out)
              have HC00 := Aside0.mk (Kd.R_mono HC0.out (ok' := fun _ => True) (fun _ _ => trivial))
              clear hdk
              go_loopw [4, 6, 13] (fun v4 v6 v13 w' => ∃ (j dd bd : Nat) (okd : Nat → Prop) (y : Dk) (cans : List (List (List Int))), j ≤ 4 ∧ v4 = .pointer (some ⟨dd, 0, none⟩) ∧ v13 = .int .i64 j ∧ Aside0 (DkAt w' bd okd dd y) ∧ Aside0 (Leaves y cans) ∧ Aside0 (cans.length ≤ 30) ∧ Aside0 (Kd.R (Kd.slice 30 (Kd.slice 5 (Kd.int .u8))) 63 w' nb (fun _ => True) v6 cans) ∧ Aside0 (w'.heap[w.heap.size]? = some (.cells #[.int .i64 a0, .slice A1 l1.length c1, .slice A2 l2.length c2] 60 (0, 0))) ∧ Aside0 (Below w.heap.size w w') ∧ Aside0 (nb ≤ w'.heap.size)) (fun _ _ v13 _ => 4 - (intOf v13).toNat)
              case atStart => exact ⟨0, d, _, _, y, cans, Nat.zero_le _, rfl, rfl, HDK, HLV0, ⟨by have := HCL.out; omega⟩, HC00, HS0, HB0, HN0⟩
              case round =>
                clear HC00 HLV0 HDK HL0 HP0 HV0 HC0 HF HCL HNR HS0 HB0 HN0 hs2
                obtain ⟨j, dd, bd, okd, y, cans, hj4, rfl, rfl, HD0, HLV, HCL, HC0, HS0, HB0, HN0⟩ := hrel
                have hs2 := (blk_cell HS0.out 2).trans rfl
                obtain ⟨Ac, cc, rfl⟩ := Kd.R_slice HC0.out
                by_cases h4 : j < 4
                · have h4' : decide ((j : Int) < 4) = true := decide_eq_true (by omega)
                  have hb : Below wr.heap.size wr (wr.alloc (.cells #[] 3)) := below_alloc (Below.refl _ _) _
                  have HD5 := Aside0.mk (HD0.out.below hb)
                  have HC5 := Aside0.mk (Kd.R_below HC0.out hb)
                  have HS5 := Aside0.mk (blk_below HS0.out hb)
                  have HB5 := Aside0.mk (below_step HB0.out hb)
                  have HN5 := Aside0.mk (Nat.le_trans HN0.out hb.size)
                  clear hb hs2
                  have hs2 := (blk_cell HS5.out 2).trans rfl
                  by_cases hjl : j < l2.length
                  · obtain ⟨ad, AR, cR, P0, cp, rfl, hx0, hx1, hx2, hRc, hRC, hx3, hpc, hpC⟩ := act12_cells H2.out HB5.out j hjl
                    obtain ⟨⟨f0, f1, R, ps⟩, hact⟩ : ∃ q, q = l2.getD j z65 := ⟨_, rfl⟩
                    rw [← hact] at hx3 hpc hpC
                    clear hact hx0 hx1 hx2 hRc hRC
                    simp only at hx3 hpc hpC
                    have HPC := Aside0.mk hpc
                    have HPQ5 := Aside0.mk (Kd.C_below hpC HB5.out)
                    clear hpc hpC
                    by_cases h2 : j < 2
                    · have t2 : decide (j < 2) = true := decide_eq_true h2
                      have t2' : decide ((j : Int) < 2) = true := decide_eq_true (by omega)
                      clear h2
                      go_wp2_with fail
                      refine (lg_within (ps.length : Int) 5 (by decide) (by decide) _).mono ?_
                      rintro e' w6 ⟨r, hr, rfl, hb⟩
                      have HD6 := Aside0.mk (HD5.out.below hb)
                      have HPQ6 := Aside0.mk (Kd.C_below HPQ5.out hb)
                      have HC6 := Aside0.mk (Kd.R_below HC5.out hb)
                      have HS6 := Aside0.mk (blk_below HS5.out hb)
                      have HB6 := Aside0.mk (below_step HB5.out hb)
                      have HN6 := Aside0.mk (Nat.le_trans HN5.out hb.size)
                      have hw1 : wrap64 (1 + (r : Int)) = 1 + (r : Int) := w64 _ (by omega)
                      have HR5 := Aside0.mk hr
                      have HTT := Aside0.mk (Kd.R_reads' (R_one (base := 0) (e := 45) (ok := fun _ => True) (okp := fun _ => True) (W := w6) k45 rfl (p := ⟨1 + (r : Int)⟩) (u := .int .i64 (1 + (r : Int))) rfl (fun _ h => h) trivial (Nat.zero_le _))).2.2
                      have hb2 : Below w6.heap.size w6 (w6.alloc (.cells #[.int .i64 (1 + (r : Int))] 45)) := below_alloc (Below.refl _ _) _
                      have HD61 := Aside0.mk (HD6.out.below hb2)
                      have HPQ61 := Aside0.mk (Kd.C_below HPQ6.out hb2)
                      have HC61 := Aside0.mk (Kd.R_below HC6.out hb2)
                      have HS61 := Aside0.mk (blk_below HS6.out hb2)
                      have HB61 := Aside0.mk (below_step HB6.out hb2)
                      have HN61 := Aside0.mk (Nat.le_trans HN6.out hb2.size)
                      clear hb hb2 hr
                      go_wp2_with fail
                      refine (dk_Crash dd P0 cp ps _ _ _ _ HD61.out HPQ61.out HPC.out).mono ?_
                      rintro e' w7 ⟨v, rfl, hR, hb⟩
                      obtain ⟨q, n, hqm, hql, hqH, hcl, hlv⟩ := leaves_crash HLV.out HD61.out.fits ps [⟨1 + (r : Int)⟩]
                      have HQM := Aside0.mk hqm
                      have HQL := Aside0.mk hql
                      have HQH := Aside0.mk hqH
                      have HLN := Aside0.mk hcl
                      have HLV2 := Aside0.mk hlv
                      clear hqm hql hqH hlv hcl
                      obtain ⟨A7, c7, rfl, hc7, hC7⟩ := Kd.R_reads hR
                      have HD7 := Aside0.mk hC7
                      have HE7 := Aside0.mk hc7
                      have HC7 := Aside0.mk (Kd.R_below HC61.out hb)
                      have HS7 := Aside0.mk (blk_below HS61.out hb)
                      have HB7 := Aside0.mk (below_step HB61.out hb)
                      have HN7 := Aside0.mk (Nat.le_trans HN61.out hb.size)
                      have HT7 := Aside0.mk (Kd.C_below HTT.out hb)
                      clear hR hb hc7 hC7
                      go_wp2_with fail
                      refine (dk_New_ok A7 c7 (y.crash ps).length (y.crash ps) (some ⟨w6.heap.size, 0, none⟩) 1 1 [⟨1 + (r : Int)⟩] _ HD7.out HE7.out HT7.out (fun t ht => by rw [List.mem_singleton.1 ht]; have := HR5.out; exact wf_small _ (by show (0 : Int) ≤ 1 + (r : Int); omega) (by show 1 + (r : Int) ≤ 100; omega)) (by rw [HLN.out]; decide) (fun t ht => by rw [List.mem_singleton.1 ht]; show 1 ≤ 1 + (r : Int); omega)).mono ?_
                      rintro e' w8 ⟨d', rfl, hd, hb⟩
                      have HD8 := Aside0.mk hd
                      have HZ8 := Aside0.mk hb.size
                      have HC8 := Aside0.mk (Kd.R_below HC7.out hb)
                      have HS8 := Aside0.mk (blk_below HS7.out hb)
                      have HB8 := Aside0.mk (below_step HB7.out hb)
                      have HN8 := Aside0.mk (Nat.le_trans HN7.out hb.size)
                      clear hd hb
                      go_wp2_with (first | (go_at_call 35; refine (lg_num _ _).mono ?_; rintro e' w' ⟨rfl, rfl⟩))
                      refine (lg_Open d' _ _ _ (Dk.new (y.crash ps) [⟨1 + (r : Int)⟩]) n q (layP q) HD8.out HZ8.out rfl (by show 128 ≤ (y.crash ps).length; rw [HLN.out]; decide) (holds_opens HQH.out) (lays q HQL.out)).mono ?_
                      rintro e' w9 ⟨gg, NN, v, rfl, hlg, hN1, hN2, hS, hb⟩
                      obtain ⟨A9, c9, rfl, hc9, hC9⟩ := Kd.S_reads hS
                      have HX9 := Aside0.mk (Kd.R_mono (Kd.R_lower (Kd.S_R hS) (Nat.le_trans HN8.out hN1)) (ok' := fun _ => True) (fun _ _ => trivial))
                      have HD9 := Aside0.mk hC9
                      have HE9 := Aside0.mk hc9
                      have HDK9 := Aside0.mk (HD8.out.below hb)
                      have HC9 := Aside0.mk (Kd.R_below HC8.out hb)
                      have HS9 := Aside0.mk (blk_below HS8.out hb)
                      have HB9 := Aside0.mk (below_step HB8.out hb)
                      have HN9 := Aside0.mk (Nat.le_trans HN8.out hb.size)
                      clear hlg hN1 hN2 hS hb hc9 hC9
                      go_wp2_with (first | (go_at_call 35; refine (lg_num _ _).mono ?_; rintro e' w' ⟨rfl, rfl⟩))
                      obtain ⟨_, hcc, hcC⟩ := Kd.R_reads' HC9.out
                      refine (lg_among Ac cc cans A9 c9 q _ hcC hcc HD9.out HE9.out HLV.out.2.1 (by have := HCL.out; omega) HQM.out).mono ?_
                      rintro e' w10 ⟨rfl, nd, hw10⟩
                      have hb : Below w9.heap.size w9 w10 := hw10 ▸ pw_below_drewN (Below.refl _ _) nd
                      have HDK10 := Aside0.mk (HDK9.out.below hb)
                      have HX10 := Aside0.mk (Kd.R_below HX9.out hb)
                      have HS10 := Aside0.mk (blk_below HS9.out hb)
                      have HB10 := Aside0.mk (below_step HB9.out hb)
                      have HN10 := Aside0.mk (Nat.le_trans HN9.out hb.size)
                      clear hb hw10 hcc hcC
                      go_wp2
                      go_roundw
                      case rel => exact ⟨j + 1, d', _, _, Dk.new (y.crash ps) [⟨1 + (r : Int)⟩], [q], by omega, rfl, by go_num, ⟨HDK10.out.below (below_alloc (Below.refl _ _) _)⟩, HLV2, ⟨by show 1 ≤ 30; decide⟩, ⟨R_one (Kd.slice 30 (Kd.slice 5 (Kd.int .u8))) rfl (Kd.M_row HX10.out) (fun _ h => h) trivial HN10.out⟩, ⟨blk_alloc HS10.out _⟩, ⟨below_alloc HB10.out _⟩, ⟨by rw [World.size_alloc]; have := HN10.out; omega⟩⟩
                      case measure => simp [intOf]; omega
                    · have t2 : decide (j < 2) = false := decide_eq_false h2
                      have t2' : decide ((j : Int) < 2) = false := decide_eq_false (by omega)
                      clear h2
                      go_wp2_with fail
                      refine (dk_Crash dd P0 cp ps _ _ _ _ HD5.out HPQ5.out HPC.out).mono ?_
                      rintro e' w7 ⟨v, rfl, hR, hb⟩
                      obtain ⟨q, n, hqm, hql, hqH, hcl, hlv⟩ := leaves_crash HLV.out HD5.out.fits ps []
                      have HQM := Aside0.mk hqm
                      have HQL := Aside0.mk hql
                      have HQH := Aside0.mk hqH
                      have HLN := Aside0.mk hcl
                      have HLV2 := Aside0.mk hlv
                      clear hqm hql hqH hlv hcl
                      obtain ⟨A7, c7, rfl, hc7, hC7⟩ := Kd.R_reads hR
                      have HD7 := Aside0.mk hC7
                      have HE7 := Aside0.mk hc7
                      have HC7 := Aside0.mk (Kd.R_below HC5.out hb)
                      have HS7 := Aside0.mk (blk_below HS5.out hb)
                      have HB7 := Aside0.mk (below_step HB5.out hb)
                      have HN7 := Aside0.mk (Nat.le_trans HN5.out hb.size)
                      have HT7 := Aside0.mk (Kd.C_below (Kd.C_nil k45 _) hb)
                      clear hR hb hc7 hC7
                      go_wp2_with fail
                      refine (dk_New_ok A7 c7 (y.crash ps).length (y.crash ps) none 0 0 [] _ HD7.out HE7.out HT7.out (fun _ h => by cases h) (by rw [HLN.out]; decide) (fun _ h => by cases h)).mono ?_
                      rintro e' w8 ⟨d', rfl, hd, hb⟩
                      have HD8 := Aside0.mk hd
                      have HZ8 := Aside0.mk hb.size
                      have HC8 := Aside0.mk (Kd.R_below HC7.out hb)
                      have HS8 := Aside0.mk (blk_below HS7.out hb)
                      have HB8 := Aside0.mk (below_step HB7.out hb)
                      have HN8 := Aside0.mk (Nat.le_trans HN7.out hb.size)
                      clear hd hb
                      go_wp2_with (first | (go_at_call 35; refine (lg_num _ _).mono ?_; rintro e' w' ⟨rfl, rfl⟩))
                      refine (lg_Open d' _ _ _ (Dk.new (y.crash ps) []) n q (layP q) HD8.out HZ8.out rfl (by show 128 ≤ (y.crash ps).length; rw [HLN.out]; decide) (holds_opens HQH.out) (lays q HQL.out)).mono ?_
                      rintro e' w9 ⟨gg, NN, v, rfl, hlg, hN1, hN2, hS, hb⟩
                      obtain ⟨A9, c9, rfl, hc9, hC9⟩ := Kd.S_reads hS
                      have HX9 := Aside0.mk (Kd.R_mono (Kd.R_lower (Kd.S_R hS) (Nat.le_trans HN8.out hN1)) (ok' := fun _ => True) (fun _ _ => trivial))
                      have HD9 := Aside0.mk hC9
                      have HE9 := Aside0.mk hc9
                      have HDK9 := Aside0.mk (HD8.out.below hb)
                      have HC9 := Aside0.mk (Kd.R_below HC8.out hb)
                      have HS9 := Aside0.mk (blk_below HS8.out hb)
                      have HB9 := Aside0.mk (below_step HB8.out hb)
                      have HN9 := Aside0.mk (Nat.le_trans HN8.out hb.size)
                      clear hlg hN1 hN2 hS hb hc9 hC9
                      go_wp2_with (first | (go_at_call 35; refine (lg_num _ _).mono ?_; rintro e' w' ⟨rfl, rfl⟩))
                      obtain ⟨_, hcc, hcC⟩ := Kd.R_reads' HC9.out
                      refine (lg_among Ac cc cans A9 c9 q _ hcC hcc HD9.out HE9.out HLV.out.2.1 (by have := HCL.out; omega) HQM.out).mono ?_
                      rintro e' w10 ⟨rfl, nd, hw10⟩
                      have hb : Below w9.heap.size w9 w10 := hw10 ▸ pw_below_drewN (Below.refl _ _) nd
                      have HDK10 := Aside0.mk (HDK9.out.below hb)
                      have HX10 := Aside0.mk (Kd.R_below HX9.out hb)
                      have HS10 := Aside0.mk (blk_below HS9.out hb)
                      have HB10 := Aside0.mk (below_step HB9.out hb)
                      have HN10 := Aside0.mk (Nat.le_trans HN9.out hb.size)
                      clear hb hw10 hcc hcC
                      go_wp2
                      go_roundw
                      case rel => exact ⟨j + 1, d', _, _, Dk.new (y.crash ps) [], [q], by omega, rfl, by go_num, ⟨HDK10.out.below (below_alloc (Below.refl _ _) _)⟩, HLV2, ⟨by show 1 ≤ 30; decide⟩, ⟨R_one (Kd.slice 30 (Kd.slice 5 (Kd.int .u8))) rfl (Kd.M_row HX10.out) (fun _ h => h) trivial HN10.out⟩, ⟨blk_alloc HS10.out _⟩, ⟨below_alloc HB10.out _⟩, ⟨by rw [World.size_alloc]; have := HN10.out; omega⟩⟩
                      case measure => simp [intOf]; omega
                  · have hge : decide (j < l2.length) = false := decide_eq_false hjl
                    have HPQ5 : Aside0 ((Kd.int .i64).C (wr.alloc (.cells #[] 3)) (some ⟨wr.heap.size, 0, none⟩) ([] : List Int).length []) := ⟨⟨rfl, by decide, fun h => absurd h (Nat.lt_irrefl 0)⟩⟩
                    clear hjl
                    by_cases h2 : j < 2
                    · have t2 : decide (j < 2) = true := decide_eq_true h2
                      have t2' : decide ((j : Int) < 2) = true := decide_eq_true (by omega)
                      clear h2
                      go_wp2_with fail
                      refine (lg_within (0 : Int) 5 (by decide) (by decide) _).mono ?_
                      rintro e' w6 ⟨r, hr, rfl, hb⟩
                      have HD6 := Aside0.mk (HD5.out.below hb)
                      have HPQ6 := Aside0.mk (Kd.C_below HPQ5.out hb)
                      have HC6 := Aside0.mk (Kd.R_below HC5.out hb)
                      have HS6 := Aside0.mk (blk_below HS5.out hb)
                      have HB6 := Aside0.mk (below_step HB5.out hb)
                      have HN6 := Aside0.mk (Nat.le_trans HN5.out hb.size)
                      have hw1 : wrap64 (1 + (r : Int)) = 1 + (r : Int) := w64 _ (by omega)
                      have HR5 := Aside0.mk hr
                      have HTT := Aside0.mk (Kd.R_reads' (R_one (base := 0) (e := 45) (ok := fun _ => True) (okp := fun _ => True) (W := w6) k45 rfl (p := ⟨1 + (r : Int)⟩) (u := .int .i64 (1 + (r : Int))) rfl (fun _ h => h) trivial (Nat.zero_le _))).2.2
                      have hb2 : Below w6.heap.size w6 (w6.alloc (.cells #[.int .i64 (1 + (r : Int))] 45)) := below_alloc (Below.refl _ _) _
                      have HD61 := Aside0.mk (HD6.out.below hb2)
                      have HPQ61 := Aside0.mk (Kd.C_below HPQ6.out hb2)
                      have HC61 := Aside0.mk (Kd.R_below HC6.out hb2)
                      have HS61 := Aside0.mk (blk_below HS6.out hb2)
                      have HB61 := Aside0.mk (below_step HB6.out hb2)
                      have HN61 := Aside0.mk (Nat.le_trans HN6.out hb2.size)
                      clear hb hb2 hr
                      go_wp2_with fail
                      refine (dk_Crash dd (some ⟨wr.heap.size, 0, none⟩) 0 [] _ _ _ _ HD61.out HPQ61.out (Nat.le_refl _)).mono ?_
                      rintro e' w7 ⟨v, rfl, hR, hb⟩
                      obtain ⟨q, n, hqm, hql, hqH, hcl, hlv⟩ := leaves_crash HLV.out HD61.out.fits [] [⟨1 + (r : Int)⟩]
                      have HQM := Aside0.mk hqm
                      have HQL := Aside0.mk hql
                      have HQH := Aside0.mk hqH
                      have HLN := Aside0.mk hcl
                      have HLV2 := Aside0.mk hlv
                      clear hqm hql hqH hlv hcl
                      obtain ⟨A7, c7, rfl, hc7, hC7⟩ := Kd.R_reads hR
                      have HD7 := Aside0.mk hC7
                      have HE7 := Aside0.mk hc7
                      have HC7 := Aside0.mk (Kd.R_below HC61.out hb)
                      have HS7 := Aside0.mk (blk_below HS61.out hb)
                      have HB7 := Aside0.mk (below_step HB61.out hb)
                      have HN7 := Aside0.mk (Nat.le_trans HN61.out hb.size)
                      have HT7 := Aside0.mk (Kd.C_below HTT.out hb)
                      clear hR hb hc7 hC7
                      go_wp2_with fail
                      refine (dk_New_ok A7 c7 (y.crash []).length (y.crash []) (some ⟨w6.heap.size, 0, none⟩) 1 1 [⟨1 + (r : Int)⟩] _ HD7.out HE7.out HT7.out (fun t ht => by rw [List.mem_singleton.1 ht]; have := HR5.out; exact wf_small _ (by show (0 : Int) ≤ 1 + (r : Int); omega) (by show 1 + (r : Int) ≤ 100; omega)) (by rw [HLN.out]; decide) (fun t ht => by rw [List.mem_singleton.1 ht]; show 1 ≤ 1 + (r : Int); omega)).mono ?_
                      rintro e' w8 ⟨d', rfl, hd, hb⟩
                      have HD8 := Aside0.mk hd
                      have HZ8 := Aside0.mk hb.size
                      have HC8 := Aside0.mk (Kd.R_below HC7.out hb)
                      have HS8 := Aside0.mk (blk_below HS7.out hb)
                      have HB8 := Aside0.mk (below_step HB7.out hb)
                      have HN8 := Aside0.mk (Nat.le_trans HN7.out hb.size)
                      clear hd hb
                      go_wp2_with (first | (go_at_call 35; refine (lg_num _ _).mono ?_; rintro e' w' ⟨rfl, rfl⟩))
                      refine (lg_Open d' _ _ _ (Dk.new (y.crash []) [⟨1 + (r : Int)⟩]) n q (layP q) HD8.out HZ8.out rfl (by show 128 ≤ (y.crash []).length; rw [HLN.out]; decide) (holds_opens HQH.out) (lays q HQL.out)).mono ?_
                      rintro e' w9 ⟨gg, NN, v, rfl, hlg, hN1, hN2, hS, hb⟩
                      obtain ⟨A9, c9, rfl, hc9, hC9⟩ := Kd.S_reads hS
                      have HX9 := Aside0.mk (Kd.R_mono (Kd.R_lower (Kd.S_R hS) (Nat.le_trans HN8.out hN1)) (ok' := fun _ => True) (fun _ _ => trivial))
                      have HD9 := Aside0.mk hC9
                      have HE9 := Aside0.mk hc9
                      have HDK9 := Aside0.mk (HD8.out.below hb)
                      have HC9 := Aside0.mk (Kd.R_below HC8.out hb)
                      have HS9 := Aside0.mk (blk_below HS8.out hb)
                      have HB9 := Aside0.mk (below_step HB8.out hb)
                      have HN9 := Aside0.mk (Nat.le_trans HN8.out hb.size)
                      clear hlg hN1 hN2 hS hb hc9 hC9
                      go_wp2_with (first | (go_at_call 35; refine (lg_num _ _).mono ?_; rintro e' w' ⟨rfl, rfl⟩))
                      obtain ⟨_, hcc, hcC⟩ := Kd.R_reads' HC9.out
                      refine (lg_among Ac cc cans A9 c9 q _ hcC hcc HD9.out HE9.out HLV.out.2.1 (by have := HCL.out; omega) HQM.out).mono ?_
                      rintro e' w10 ⟨rfl, nd, hw10⟩
                      have hb : Below w9.heap.size w9 w10 := hw10 ▸ pw_below_drewN (Below.refl _ _) nd
                      have HDK10 := Aside0.mk (HDK9.out.below hb)
                      have HX10 := Aside0.mk (Kd.R_below HX9.out hb)
                      have HS10 := Aside0.mk (blk_below HS9.out hb)
                      have HB10 := Aside0.mk (below_step HB9.out hb)
                      have HN10 := Aside0.mk (Nat.le_trans HN9.out hb.size)
                      clear hb hw10 hcc hcC
                      go_wp2
                      go_roundw
                      case rel => exact ⟨j + 1, d', _, _, Dk.new (y.crash []) [⟨1 + (r : Int)⟩], [q], by omega, rfl, by go_num, ⟨HDK10.out.below (below_alloc (Below.refl _ _) _)⟩, HLV2, ⟨by show 1 ≤ 30; decide⟩, ⟨R_one (Kd.slice 30 (Kd.slice 5 (Kd.int .u8))) rfl (Kd.M_row HX10.out) (fun _ h => h) trivial HN10.out⟩, ⟨blk_alloc HS10.out _⟩, ⟨below_alloc HB10.out _⟩, ⟨by rw [World.size_alloc]; have := HN10.out; omega⟩⟩
                      case measure => simp [intOf]; omega
                    · have t2 : decide (j < 2) = false := decide_eq_false h2
                      have t2' : decide ((j : Int) < 2) = false := decide_eq_false (by omega)
                      clear h2
                      go_wp2_with fail
                      refine (dk_Crash dd (some ⟨wr.heap.size, 0, none⟩) 0 [] _ _ _ _ HD5.out HPQ5.out (Nat.le_refl _)).mono ?_
                      rintro e' w7 ⟨v, rfl, hR, hb⟩
                      obtain ⟨q, n, hqm, hql, hqH, hcl, hlv⟩ := leaves_crash HLV.out HD5.out.fits [] []
                      have HQM := Aside0.mk hqm
                      have HQL := Aside0.mk hql
                      have HQH := Aside0.mk hqH
                      have HLN := Aside0.mk hcl
                      have HLV2 := Aside0.mk hlv
                      clear hqm hql hqH hlv hcl
                      obtain ⟨A7, c7, rfl, hc7, hC7⟩ := Kd.R_reads hR
                      have HD7 := Aside0.mk hC7
                      have HE7 := Aside0.mk hc7
                      have HC7 := Aside0.mk (Kd.R_below HC5.out hb)
                      have HS7 := Aside0.mk (blk_below HS5.out hb)
                      have HB7 := Aside0.mk (below_step HB5.out hb)
                      have HN7 := Aside0.mk (Nat.le_trans HN5.out hb.size)
                      have HT7 := Aside0.mk (Kd.C_below (Kd.C_nil k45 _) hb)
                      clear hR hb hc7 hC7
                      go_wp2_with fail
                      refine (dk_New_ok A7 c7 (y.crash []).length (y.crash []) none 0 0 [] _ HD7.out HE7.out HT7.out (fun _ h => by cases h) (by rw [HLN.out]; decide) (fun _ h => by cases h)).mono ?_
                      rintro e' w8 ⟨d', rfl, hd, hb⟩
                      have HD8 := Aside0.mk hd
                      have HZ8 := Aside0.mk hb.size
                      have HC8 := Aside0.mk (Kd.R_below HC7.out hb)
                      have HS8 := Aside0.mk (blk_below HS7.out hb)
                      have HB8 := Aside0.mk (below_step HB7.out hb)
                      have HN8 := Aside0.mk (Nat.le_trans HN7.out hb.size)
                      clear hd hb
                      go_wp2_with (first | (go_at_call 35; refine (lg_num _ _).mono ?_; rintro e' w' ⟨rfl, rfl⟩))
                      refine (lg_Open d' _ _ _ (Dk.new (y.crash []) []) n q (layP q) HD8.out HZ8.out rfl (by show 128 ≤ (y.crash []).length; rw [HLN.out]; decide) (holds_opens HQH.out) (lays q HQL.out)).mono ?_
                      rintro e' w9 ⟨gg, NN, v, rfl, hlg, hN1, hN2, hS, hb⟩
                      obtain ⟨A9, c9, rfl, hc9, hC9⟩ := Kd.S_reads hS
                      have HX9 := Aside0.mk (Kd.R_mono (Kd.R_lower (Kd.S_R hS) (Nat.le_trans HN8.out hN1)) (ok' := fun _ => True) (fun _ _ => trivial))
                      have HD9 := Aside0.mk hC9
                      have HE9 := Aside0.mk hc9
                      have HDK9 := Aside0.mk (HD8.out.below hb)
                      have HC9 := Aside0.mk (Kd.R_below HC8.out hb)
                      have HS9 := Aside0.mk (blk_below HS8.out hb)
                      have HB9 := Aside0.mk (below_step HB8.out hb)
                      have HN9 := Aside0.mk (Nat.le_trans HN8.out hb.size)
                      clear hlg hN1 hN2 hS hb hc9 hC9
                      go_wp2_with (first | (go_at_call 35; refine (lg_num _ _).mono ?_; rintro e' w' ⟨rfl, rfl⟩))
                      obtain ⟨_, hcc, hcC⟩ := Kd.R_reads' HC9.out
                      refine (lg_among Ac cc cans A9 c9 q _ hcC hcc HD9.out HE9.out HLV.out.2.1 (by have := HCL.out; omega) HQM.out).mono ?_
                      rintro e' w10 ⟨rfl, nd, hw10⟩
                      have hb : Below w9.heap.size w9 w10 := hw10 ▸ pw_below_drewN (Below.refl _ _) nd
                      have HDK10 := Aside0.mk (HDK9.out.below hb)
                      have HX10 := Aside0.mk (Kd.R_below HX9.out hb)
                      have HS10 := Aside0.mk (blk_below HS9.out hb)
                      have HB10 := Aside0.mk (below_step HB9.out hb)
                      have HN10 := Aside0.mk (Nat.le_trans HN9.out hb.size)
                      clear hb hw10 hcc hcC
                      go_wp2
                      go_roundw
                      case rel => exact ⟨j + 1, d', _, _, Dk.new (y.crash []) [], [q], by omega, rfl, by go_num, ⟨HDK10.out.below (below_alloc (Below.refl _ _) _)⟩, HLV2, ⟨by show 1 ≤ 30; decide⟩, ⟨R_one (Kd.slice 30 (Kd.slice 5 (Kd.int .u8))) rfl (Kd.M_row HX10.out) (fun _ h => h) trivial HN10.out⟩, ⟨blk_alloc HS10.out _⟩, ⟨below_alloc HB10.out _⟩, ⟨by rw [World.size_alloc]; have := HN10.out; omega⟩⟩
                      case measure => simp [intOf]; omega
                · have hge : decide (j < 4) = false := decide_eq_false h4
                  go_wp2_with (first | (go_at_call 41; refine (lg_wakes _).mono ?_; rintro e' w9 ⟨rfl, hb⟩; have HXX := Aside0.mk (below_step HB0.out hb); clear hb))
                  go_ret
                  exact ⟨rfl, HXX.out⟩
            · have hge : decide (i < 25) = false := decide_eq_false h2
              have hge' : decide ((i : Int) < 25) = false := decide_eq_false (by omega)
              have hge2 : decide (i < l2.length) = true := decide_eq_true h1
              clear h1
              clear h2
              go_wp2_with (first | (go_at_call 35; refine (lg_num _ _).mono ?_; rintro e' w' ⟨rfl, rfl⟩))
              obtain ⟨okd, hdk⟩ := HL0.out.disk
              have HDK := Aside0.mk hdk
              have HLV0 := Aside0.mk (fine_leaves HF.out)
              have HC00 := Aside0.mk (Kd.R_mono HC0.out (ok' := fun _ => True) (fun _ _ => trivial))
              clear hdk
              go_loopw [4, 6, 13] (fun v4 v6 v13 w' => ∃ (j dd bd : Nat) (okd : Nat → Prop) (y : Dk) (cans : List (List (List Int))), j ≤ 4 ∧ v4 = .pointer (some ⟨dd, 0, none⟩) ∧ v13 = .int .i64 j ∧ Aside0 (DkAt w' bd okd dd y) ∧ Aside0 (Leaves y cans) ∧ Aside0 (cans.length ≤ 30) ∧ Aside0 (Kd.R (Kd.slice 30 (Kd.slice 5 (Kd.int .u8))) 63 w' nb (fun _ => True) v6 cans) ∧ Aside0 (w'.heap[w.heap.size]? = some (.cells #[.int .i64 a0, .slice A1 l1.length c1, .slice A2 l2.length c2] 60 (0, 0))) ∧ Aside0 (Below w.heap.size w w') ∧ Aside0 (nb ≤ w'.heap.size)) (fun _ _ v13 _ => 4 - (intOf v13).toNat)
              case atStart => exact ⟨0, d, _, _, y, cans, Nat.zero_le _, rfl, rfl, HDK, HLV0, ⟨by have := HCL.out; omega⟩, HC00, HS0, HB0, HN0⟩
              case round =>
                clear HC00 HLV0 HDK HL0 HP0 HV0 HC0 HF HCL HNR HS0 HB0 HN0 hs2
                obtain ⟨j, dd, bd, okd, y, cans, hj4, rfl, rfl, HD0, HLV, HCL, HC0, HS0, HB0, HN0⟩ := hrel
                have hs2 := (blk_cell HS0.out 2).trans rfl
                obtain ⟨Ac, cc, rfl⟩ := Kd.R_slice HC0.out
                by_cases h4 : j < 4
                · have h4' : decide ((j : Int) < 4) = true := decide_eq_true (by omega)
                  have hb : Below wr.heap.size wr (wr.alloc (.cells #[] 3)) := below_alloc (Below.refl _ _) _
                  have HD5 := Aside0.mk (HD0.out.below hb)
                  have HC5 := Aside0.mk (Kd.R_below HC0.out hb)
                  have HS5 := Aside0.mk (blk_below HS0.out hb)
                  have HB5 := Aside0.mk (below_step HB0.out hb)
                  have HN5 := Aside0.mk (Nat.le_trans HN0.out hb.size)
                  clear hb hs2
                  have hs2 := (blk_cell HS5.out 2).trans rfl
                  by_cases hjl : j < l2.length
                  · obtain ⟨ad, AR, cR, P0, cp, rfl, hx0, hx1, hx2, hRc, hRC, hx3, hpc, hpC⟩ := act12_cells H2.out HB5.out j hjl
                    obtain ⟨⟨f0, f1, R, ps⟩, hact⟩ : ∃ q, q = l2.getD j z65 := ⟨_, rfl⟩
                    rw [← hact] at hx3 hpc hpC
                    clear hact hx0 hx1 hx2 hRc hRC
                    simp only at hx3 hpc hpC
                    have HPC := Aside0.mk hpc
                    have HPQ5 := Aside0.mk (Kd.C_below hpC HB5.out)
                    clear hpc hpC
                    by_cases h2 : j < 2
                    · have t2 : decide (j < 2) = true := decide_eq_true h2
                      have t2' : decide ((j : Int) < 2) = true := decide_eq_true (by omega)
                      clear h2
                      go_wp2_with fail
                      refine (lg_within (ps.length : Int) 5 (by decide) (by decide) _).mono ?_
                      rintro e' w6 ⟨r, hr, rfl, hb⟩
                      have HD6 := Aside0.mk (HD5.out.below hb)
                      have HPQ6 := Aside0.mk (Kd.C_below HPQ5.out hb)
                      have HC6 := Aside0.mk (Kd.R_below HC5.out hb)
                      have HS6 := Aside0.mk (blk_below HS5.out hb)
                      have HB6 := Aside0.mk (below_step HB5.out hb)
                      have HN6 := Aside0.mk (Nat.le_trans HN5.out hb.size)
                      have hw1 : wrap64 (1 + (r : Int)) = 1 + (r : Int) := w64 _ (by omega)
                      have HR5 := Aside0.mk hr
                      have HTT := Aside0.mk (Kd.R_reads' (R_one (base := 0) (e := 45) (ok := fun _ => True) (okp := fun _ => True) (W := w6) k45 rfl (p := ⟨1 + (r : Int)⟩) (u := .int .i64 (1 + (r : Int))) rfl (fun _ h => h) trivial (Nat.zero_le _))).2.2
                      have hb2 : Below w6.heap.size w6 (w6.alloc (.cells #[.int .i64 (1 + (r : Int))] 45)) := below_alloc (Below.refl _ _) _
                      have HD61 := Aside0.mk (HD6.out.below hb2)
                      have HPQ61 := Aside0.mk (Kd.C_below HPQ6.out hb2)
                      have HC61 := Aside0.mk (Kd.R_below HC6.out hb2)
                      have HS61 := Aside0.mk (blk_below HS6.out hb2)
                      have HB61 := Aside0.mk (below_step HB6.out hb2)
                      have HN61 := Aside0.mk (Nat.le_trans HN6.out hb2.size)
                      clear hb hb2 hr
                      go_wp2_with fail
                      refine (dk_Crash dd P0 cp ps _ _ _ _ HD61.out HPQ61.out HPC.out).mono ?_
                      rintro e' w7 ⟨v, rfl, hR, hb⟩
                      obtain ⟨q, n, hqm, hql, hqH, hcl, hlv⟩ := leaves_crash HLV.out HD61.out.fits ps [⟨1 + (r : Int)⟩]
                      have HQM := Aside0.mk hqm
                      have HQL := Aside0.mk hql
                      have HQH := Aside0.mk hqH
                      have HLN := Aside0.mk hcl
                      have HLV2 := Aside0.mk hlv
                      clear hqm hql hqH hlv hcl
                      obtain ⟨A7, c7, rfl, hc7, hC7⟩ := Kd.R_reads hR
                      have HD7 := Aside0.mk hC7
                      have HE7 := Aside0.mk hc7
                      have HC7 := Aside0.mk (Kd.R_below HC61.out hb)
                      have HS7 := Aside0.mk (blk_below HS61.out hb)
                      have HB7 := Aside0.mk (below_step HB61.out hb)
                      have HN7 := Aside0.mk (Nat.le_trans HN61.out hb.size)
                      have HT7 := Aside0.mk (Kd.C_below HTT.out hb)
                      clear hR hb hc7 hC7
                      go_wp2_with fail
                      refine (dk_New_ok A7 c7 (y.crash ps).length (y.crash ps) (some ⟨w6.heap.size, 0, none⟩) 1 1 [⟨1 + (r : Int)⟩] _ HD7.out HE7.out HT7.out (fun t ht => by rw [List.mem_singleton.1 ht]; have := HR5.out; exact wf_small _ (by show (0 : Int) ≤ 1 + (r : Int); omega) (by show 1 + (r : Int) ≤ 100; omega)) (by rw [HLN.out]; decide) (fun t ht => by rw [List.mem_singleton.1 ht]; show 1 ≤ 1 + (r : Int); omega)).mono ?_
                      rintro e' w8 ⟨d', rfl, hd, hb⟩
                      have HD8 := Aside0.mk hd
                      have HZ8 := Aside0.mk hb.size
                      have HC8 := Aside0.mk (Kd.R_below HC7.out hb)
                      have HS8 := Aside0.mk (blk_below HS7.out hb)
                      have HB8 := Aside0.mk (below_step HB7.out hb)
                      have HN8 := Aside0.mk (Nat.le_trans HN7.out hb.size)
                      clear hd hb
                      go_wp2_with (first | (go_at_call 35; refine (lg_num _ _).mono ?_; rintro e' w' ⟨rfl, rfl⟩))
                      refine (lg_Open d' _ _ _ (Dk.new (y.crash ps) [⟨1 + (r : Int)⟩]) n q (layP q) HD8.out HZ8.out rfl (by show 128 ≤ (y.crash ps).length; rw [HLN.out]; decide) (holds_opens HQH.out) (lays q HQL.out)).mono ?_
                      rintro e' w9 ⟨gg, NN, v, rfl, hlg, hN1, hN2, hS, hb⟩
                      obtain ⟨A9, c9, rfl, hc9, hC9⟩ := Kd.S_reads hS
                      have HX9 := Aside0.mk (Kd.R_mono (Kd.R_lower (Kd.S_R hS) (Nat.le_trans HN8.out hN1)) (ok' := fun _ => True) (fun _ _ => trivial))
                      have HD9 := Aside0.mk hC9
                      have HE9 := Aside0.mk hc9
                      have HDK9 := Aside0.mk (HD8.out.below hb)
                      have HC9 := Aside0.mk (Kd.R_below HC8.out hb)
                      have HS9 := Aside0.mk (blk_below HS8.out hb)
                      have HB9 := Aside0.mk (below_step HB8.out hb)
                      have HN9 := Aside0.mk (Nat.le_trans HN8.out hb.size)
                      clear hlg hN1 hN2 hS hb hc9 hC9
                      go_wp2_with (first | (go_at_call 35; refine (lg_num _ _).mono ?_; rintro e' w' ⟨rfl, rfl⟩))
                      obtain ⟨_, hcc, hcC⟩ := Kd.R_reads' HC9.out
                      refine (lg_among Ac cc cans A9 c9 q _ hcC hcc HD9.out HE9.out HLV.out.2.1 (by have := HCL.out; omega) HQM.out).mono ?_
                      rintro e' w10 ⟨rfl, nd, hw10⟩
                      have hb : Below w9.heap.size w9 w10 := hw10 ▸ pw_below_drewN (Below.refl _ _) nd
                      have HDK10 := Aside0.mk (HDK9.out.below hb)
                      have HX10 := Aside0.mk (Kd.R_below HX9.out hb)
                      have HS10 := Aside0.mk (blk_below HS9.out hb)
                      have HB10 := Aside0.mk (below_step HB9.out hb)
                      have HN10 := Aside0.mk (Nat.le_trans HN9.out hb.size)
                      clear hb hw10 hcc hcC
                      go_wp2
                      go_roundw
                      case rel => exact ⟨j + 1, d', _, _, Dk.new (y.crash ps) [⟨1 + (r : Int)⟩], [q], by omega, rfl, by go_num, ⟨HDK10.out.below (below_alloc (Below.refl _ _) _)⟩, HLV2, ⟨by show 1 ≤ 30; decide⟩, ⟨R_one (Kd.slice 30 (Kd.slice 5 (Kd.int .u8))) rfl (Kd.M_row HX10.out) (fun _ h => h) trivial HN10.out⟩, ⟨blk_alloc HS10.out _⟩, ⟨below_alloc HB10.out _⟩, ⟨by rw [World.size_alloc]; have := HN10.out; omega⟩⟩
                      case measure => simp [intOf]; omega
                    · have t2 : decide (j < 2) = false := decide_eq_false h2
                      have t2' : decide ((j : Int) < 2) = false := decide_eq_false (by omega)
                      clear h2
                      go_wp2_with fail
                      refine (dk_Crash dd P0 cp ps _ _ _ _ HD5.out HPQ5.out HPC.out).mono ?_
                      rintro e' w7 ⟨v, rfl, hR, hb⟩
                      obtain ⟨q, n, hqm, hql, hqH, hcl, hlv⟩ := leaves_crash HLV.out HD5.out.fits ps []
                      have HQM := Aside0.mk hqm
                      have HQL := Aside0.mk hql
                      have HQH := Aside0.mk hqH
                      have HLN := Aside0.mk hcl
                      have HLV2 := Aside0.mk hlv
                      clear hqm hql hqH hlv hcl
                      obtain ⟨A7, c7, rfl, hc7, hC7⟩ := Kd.R_reads hR
                      have HD7 := Aside0.mk hC7
                      have HE7 := Aside0.mk hc7
                      have HC7 := Aside0.mk (Kd.R_below HC5.out hb)
                      have HS7 := Aside0.mk (blk_below HS5.out hb)
                      have HB7 := Aside0.mk (below_step HB5.out hb)
                      have HN7 := Aside0.mk (Nat.le_trans HN5.out hb.size)
                      have HT7 := Aside0.mk (Kd.C_below (Kd.C_nil k45 _) hb)
                      clear hR hb hc7 hC7
                      go_wp2_with fail
                      refine (dk_New_ok A7 c7 (y.crash ps).length (y.crash ps) none 0 0 [] _ HD7.out HE7.out HT7.out (fun _ h => by cases h) (by rw [HLN.out]; decide) (fun _ h => by cases h)).mono ?_
                      rintro e' w8 ⟨d', rfl, hd, hb⟩
                      have HD8 := Aside0.mk hd
                      have HZ8 := Aside0.mk hb.size
                      have HC8 := Aside0.mk (Kd.R_below HC7.out hb)
                      have HS8 := Aside0.mk (blk_below HS7.out hb)
                      have HB8 := Aside0.mk (below_step HB7.out hb)
                      have HN8 := Aside0.mk (Nat.le_trans HN7.out hb.size)
                      clear hd hb
                      go_wp2_with (first | (go_at_call 35; refine (lg_num _ _).mono ?_; rintro e' w' ⟨rfl, rfl⟩))
                      refine (lg_Open d' _ _ _ (Dk.new (y.crash ps) []) n q (layP q) HD8.out HZ8.out rfl (by show 128 ≤ (y.crash ps).length; rw [HLN.out]; decide) (holds_opens HQH.out) (lays q HQL.out)).mono ?_
                      rintro e' w9 ⟨gg, NN, v, rfl, hlg, hN1, hN2, hS, hb⟩
                      obtain ⟨A9, c9, rfl, hc9, hC9⟩ := Kd.S_reads hS
                      have HX9 := Aside0.mk (Kd.R_mono (Kd.R_lower (Kd.S_R hS) (Nat.le_trans HN8.out hN1)) (ok' := fun _ => True) (fun _ _ => trivial))
                      have HD9 := Aside0.mk hC9
                      have HE9 := Aside0.mk hc9
                      have HDK9 := Aside0.mk (HD8.out.below hb)
                      have HC9 := Aside0.mk (Kd.R_below HC8.out hb)
                      have HS9 := Aside0.mk (blk_below HS8.out hb)
                      have HB9 := Aside0.mk (below_step HB8.out hb)
                      have HN9 := Aside0.mk (Nat.le_trans HN8.out hb.size)
                      clear hlg hN1 hN2 hS hb hc9 hC9
                      go_wp2_with (first | (go_at_call 35; refine (lg_num _ _).mono ?_; rintro e' w' ⟨rfl, rfl⟩))
                      obtain ⟨_, hcc, hcC⟩ := Kd.R_reads' HC9.out
                      refine (lg_among Ac cc cans A9 c9 q _ hcC hcc HD9.out HE9.out HLV.out.2.1 (by have := HCL.out; omega) HQM.out).mono ?_
                      rintro e' w10 ⟨rfl, nd, hw10⟩
                      have hb : Below w9.heap.size w9 w10 := hw10 ▸ pw_below_drewN (Below.refl _ _) nd
                      have HDK10 := Aside0.mk (HDK9.out.below hb)
                      have HX10 := Aside0.mk (Kd.R_below HX9.out hb)
                      have HS10 := Aside0.mk (blk_below HS9.out hb)
                      have HB10 := Aside0.mk (below_step HB9.out hb)
                      have HN10 := Aside0.mk (Nat.le_trans HN9.out hb.size)
                      clear hb hw10 hcc hcC
                      go_wp2
                      go_roundw
                      case rel => exact ⟨j + 1, d', _, _, Dk.new (y.crash ps) [], [q], by omega, rfl, by go_num, ⟨HDK10.out.below (below_alloc (Below.refl _ _) _)⟩, HLV2, ⟨by show 1 ≤ 30; decide⟩, ⟨R_one (Kd.slice 30 (Kd.slice 5 (Kd.int .u8))) rfl (Kd.M_row HX10.out) (fun _ h => h) trivial HN10.out⟩, ⟨blk_alloc HS10.out _⟩, ⟨below_alloc HB10.out _⟩, ⟨by rw [World.size_alloc]; have := HN10.out; omega⟩⟩
                      case measure => simp [intOf]; omega
                  · have hge : decide (j < l2.length) = false := decide_eq_false hjl
                    have HPQ5 : Aside0 ((Kd.int .i64).C (wr.alloc (.cells #[] 3)) (some ⟨wr.heap.size, 0, none⟩) ([] : List Int).length []) := ⟨⟨rfl, by decide, fun h => absurd h (Nat.lt_irrefl 0)⟩⟩
                    clear hjl
                    by_cases h2 : j < 2
                    · have t2 : decide (j < 2) = true := decide_eq_true h2
                      have t2' : decide ((j : Int) < 2) = true := decide_eq_true (by omega)
                      clear h2
                      go_wp2_with fail
                      refine (lg_within (0 : Int) 5 (by decide) (by decide) _).mono ?_
                      rintro e' w6 ⟨r, hr, rfl, hb⟩
                      have HD6 := Aside0.mk (HD5.out.below hb)
                      have HPQ6 := Aside0.mk (Kd.C_below HPQ5.out hb)
                      have HC6 := Aside0.mk (Kd.R_below HC5.out hb)
                      have HS6 := Aside0.mk (blk_below HS5.out hb)
                      have HB6 := Aside0.mk (below_step HB5.out hb)
                      have HN6 := Aside0.mk (Nat.le_trans HN5.out hb.size)
                      have hw1 : wrap64 (1 + (r : Int)) = 1 + (r : Int) := w64 _ (by omega)
                      have HR5 := Aside0.mk hr
                      have HTT := Aside0.mk (Kd.R_reads' (R_one (base := 0) (e := 45) (ok := fun _ => True) (okp := fun _ => True) (W := w6) k45 rfl (p := ⟨1 + (r : Int)⟩) (u := .int .i64 (1 + (r : Int))) rfl (fun _ h => h) trivial (Nat.zero_le _))).2.2
                      have hb2 : Below w6.heap.size w6 (w6.alloc (.cells #[.int .i64 (1 + (r : Int))] 45)) := below_alloc (Below.refl _ _) _
                      have HD61 := Aside0.mk (HD6.out.below hb2)
                      have HPQ61 := Aside0.mk (Kd.C_below HPQ6.out hb2)
                      have HC61 := Aside0.mk (Kd.R_below HC6.out hb2)
                      have HS61 := Aside0.mk (blk_below HS6.out hb2)
                      have HB61 := Aside0.mk (below_step HB6.out hb2)
                      have HN61 := Aside0.mk (Nat.le_trans HN6.out hb2.size)
                      clear hb hb2 hr
                      go_wp2_with fail
                      refine (dk_Crash dd (some ⟨wr.heap.size, 0, none⟩) 0 [] _ _ _ _ HD61.out HPQ61.out (Nat.le_refl _)).mono ?_
                      rintro e' w7 ⟨v, rfl, hR, hb⟩
                      obtain ⟨q, n, hqm, hql, hqH, hcl, hlv⟩ := leaves_crash HLV.out HD61.out.fits [] [⟨1 + (r : Int)⟩]
                      have HQM := Aside0.mk hqm
                      have HQL := Aside0.mk hql
                      have HQH := Aside0.mk hqH
                      have HLN := Aside0.mk hcl
                      have HLV2 := Aside0.mk hlv
                      clear hqm hql hqH hlv hcl
                      obtain ⟨A7, c7, rfl, hc7, hC7⟩ := Kd.R_reads hR
                      have HD7 := Aside0.mk hC7
                      have HE7 := Aside0.mk hc7
                      have HC7 := Aside0.mk (Kd.R_below HC61.out hb)
                      have HS7 := Aside0.mk (blk_below HS61.out hb)
                      have HB7 := Aside0.mk (below_step HB61.out hb)
                      have HN7 := Aside0.mk (Nat.le_trans HN61.out hb.size)
                      have HT7 := Aside0.mk (Kd.C_below HTT.out hb)
                      clear hR hb hc7 hC7
                      go_wp2_with fail
                      refine (dk_New_ok A7 c7 (y.crash []).length (y.crash []) (some ⟨w6.heap.size, 0, none⟩) 1 1 [⟨1 + (r : Int)⟩] _ HD7.out HE7.out HT7.out (fun t ht => by rw [List.mem_singleton.1 ht]; have := HR5.out; exact wf_small _ (by show (0 : Int) ≤ 1 + (r : Int); omega) (by show 1 + (r : Int) ≤ 100; omega)) (by rw [HLN.out]; decide) (fun t ht => by rw [List.mem_singleton.1 ht]; show 1 ≤ 1 + (r : Int); omega)).mono ?_
                      rintro e' w8 ⟨d', rfl, hd, hb⟩
                      have HD8 := Aside0.mk hd
                      have HZ8 := Aside0.mk hb.size
                      have HC8 := Aside0.mk (Kd.R_below HC7.out hb)
                      have HS8 := Aside0.mk (blk_below HS7.out hb)
                      have HB8 := Aside0.mk (below_step HB7.out hb)
                      have HN8 := Aside0.mk (Nat.le_trans HN7.out hb.size)
                      clear hd hb
                      go_wp2_with (first | (go_at_call 35; refine (lg_num _ _).mono ?_; rintro e' w' ⟨rfl, rfl⟩))
                      refine (lg_Open d' _ _ _ (Dk.new (y.crash []) [⟨1 + (r : Int)⟩]) n q (layP q) HD8.out HZ8.out rfl (by show 128 ≤ (y.crash []).length; rw [HLN.out]; decide) (holds_opens HQH.out) (lays q HQL.out)).mono ?_
                      rintro e' w9 ⟨gg, NN, v, rfl, hlg, hN1, hN2, hS, hb⟩
                      obtain ⟨A9, c9, rfl, hc9, hC9⟩ := Kd.S_reads hS
                      have HX9 := Aside0.mk (Kd.R_mono (Kd.R_lower (Kd.S_R hS) (Nat.le_trans HN8.out hN1)) (ok' := fun _ => True) (fun _ _ => trivial))
                      have HD9 := Aside0.mk hC9
                      have HE9 := Aside0.mk hc9
                      have HDK9 := Aside0.mk (HD8.out.below hb)
                      have HC9 := Aside0.mk (Kd.R_below HC8.out hb)
                      have HS9 := Aside0.mk (blk_below HS8.out hb)
                      have HB9 := Aside0.mk (below_step HB8.out hb)
                      have HN9 := Aside0.mk (Nat.le_trans HN8.out hb.size)
                      clear hlg hN1 hN2 hS hb hc9 hC9
                      go_wp2_with (first | (go_at_call 35; refine (lg_num _ _).mono ?_; rintro e' w' ⟨rfl, rfl⟩))
                      obtain ⟨_, hcc, hcC⟩ := Kd.R_reads' HC9.out
                      refine (lg_among Ac cc cans A9 c9 q _ hcC hcc HD9.out HE9.out HLV.out.2.1 (by have := HCL.out; omega) HQM.out).mono ?_
                      rintro e' w10 ⟨rfl, nd, hw10⟩
                      have hb : Below w9.heap.size w9 w10 := hw10 ▸ pw_below_drewN (Below.refl _ _) nd
                      have HDK10 := Aside0.mk (HDK9.out.below hb)
                      have HX10 := Aside0.mk (Kd.R_below HX9.out hb)
                      have HS10 := Aside0.mk (blk_below HS9.out hb)
                      have HB10 := Aside0.mk (below_step HB9.out hb)
                      have HN10 := Aside0.mk (Nat.le_trans HN9.out hb.size)
                      clear hb hw10 hcc hcC
                      go_wp2
                      go_roundw
                      case rel => exact ⟨j + 1, d', _, _, Dk.new (y.crash []) [⟨1 + (r : Int)⟩], [q], by omega, rfl, by go_num, ⟨HDK10.out.below (below_alloc (Below.refl _ _) _)⟩, HLV2, ⟨by show 1 ≤ 30; decide⟩, ⟨R_one (Kd.slice 30 (Kd.slice 5 (Kd.int .u8))) rfl (Kd.M_row HX10.out) (fun _ h => h) trivial HN10.out⟩, ⟨blk_alloc HS10.out _⟩, ⟨below_alloc HB10.out _⟩, ⟨by rw [World.size_alloc]; have := HN10.out; omega⟩⟩
                      case measure => simp [intOf]; omega
                    · have t2 : decide (j < 2) = false := decide_eq_false h2
                      have t2' : decide ((j : Int) < 2) = false := decide_eq_false (by omega)
                      clear h2
                      go_wp2_with fail
                      refine (dk_Crash dd (some ⟨wr.heap.size, 0, none⟩) 0 [] _ _ _ _ HD5.out HPQ5.out (Nat.le_refl _)).mono ?_
                      rintro e' w7 ⟨v, rfl, hR, hb⟩
                      obtain ⟨q, n, hqm, hql, hqH, hcl, hlv⟩ := leaves_crash HLV.out HD5.out.fits [] []
                      have HQM := Aside0.mk hqm
                      have HQL := Aside0.mk hql
                      have HQH := Aside0.mk hqH
                      have HLN := Aside0.mk hcl
                      have HLV2 := Aside0.mk hlv
                      clear hqm hql hqH hlv hcl
                      obtain ⟨A7, c7, rfl, hc7, hC7⟩ := Kd.R_reads hR
                      have HD7 := Aside0.mk hC7
                      have HE7 := Aside0.mk hc7
                      have HC7 := Aside0.mk (Kd.R_below HC5.out hb)
                      have HS7 := Aside0.mk (blk_below HS5.out hb)
                      have HB7 := Aside0.mk (below_step HB5.out hb)
                      have HN7 := Aside0.mk (Nat.le_trans HN5.out hb.size)
                      have HT7 := Aside0.mk (Kd.C_below (Kd.C_nil k45 _) hb)
                      clear hR hb hc7 hC7
                      go_wp2_with fail
                      refine (dk_New_ok A7 c7 (y.crash []).length (y.crash []) none 0 0 [] _ HD7.out HE7.out HT7.out (fun _ h => by cases h) (by rw [HLN.out]; decide) (fun _ h => by cases h)).mono ?_
                      rintro e' w8 ⟨d', rfl, hd, hb⟩
                      have HD8 := Aside0.mk hd
                      have HZ8 := Aside0.mk hb.size
                      have HC8 := Aside0.mk (Kd.R_below HC7.out hb)
                      have HS8 := Aside0.mk (blk_below HS7.out hb)
                      have HB8 := Aside0.mk (below_step HB7.out hb)
                      have HN8 := Aside0.mk (Nat.le_trans HN7.out hb.size)
                      clear hd hb
                      go_wp2_with (first | (go_at_call 35; refine (lg_num _ _).mono ?_; rintro e' w' ⟨rfl, rfl⟩))
                      refine (lg_Open d' _ _ _ (Dk.new (y.crash []) []) n q (layP q) HD8.out HZ8.out rfl (by show 128 ≤ (y.crash []).length; rw [HLN.out]; decide) (holds_opens HQH.out) (lays q HQL.out)).mono ?_
                      rintro e' w9 ⟨gg, NN, v, rfl, hlg, hN1, hN2, hS, hb⟩
                      obtain ⟨A9, c9, rfl, hc9, hC9⟩ := Kd.S_reads hS
                      have HX9 := Aside0.mk (Kd.R_mono (Kd.R_lower (Kd.S_R hS) (Nat.le_trans HN8.out hN1)) (ok' := fun _ => True) (fun _ _ => trivial))
                      have HD9 := Aside0.mk hC9
                      have HE9 := Aside0.mk hc9
                      have HDK9 := Aside0.mk (HD8.out.below hb)
                      have HC9 := Aside0.mk (Kd.R_below HC8.out hb)
                      have HS9 := Aside0.mk (blk_below HS8.out hb)
                      have HB9 := Aside0.mk (below_step HB8.out hb)
                      have HN9 := Aside0.mk (Nat.le_trans HN8.out hb.size)
                      clear hlg hN1 hN2 hS hb hc9 hC9
                      go_wp2_with (first | (go_at_call 35; refine (lg_num _ _).mono ?_; rintro e' w' ⟨rfl, rfl⟩))
                      obtain ⟨_, hcc, hcC⟩ := Kd.R_reads' HC9.out
                      refine (lg_among Ac cc cans A9 c9 q _ hcC hcc HD9.out HE9.out HLV.out.2.1 (by have := HCL.out; omega) HQM.out).mono ?_
                      rintro e' w10 ⟨rfl, nd, hw10⟩
                      have hb : Below w9.heap.size w9 w10 := hw10 ▸ pw_below_drewN (Below.refl _ _) nd
                      have HDK10 := Aside0.mk (HDK9.out.below hb)
                      have HX10 := Aside0.mk (Kd.R_below HX9.out hb)
                      have HS10 := Aside0.mk (blk_below HS9.out hb)
                      have HB10 := Aside0.mk (below_step HB9.out hb)
                      have HN10 := Aside0.mk (Nat.le_trans HN9.out hb.size)
                      clear hb hw10 hcc hcC
                      go_wp2
                      go_roundw
                      case rel => exact ⟨j + 1, d', _, _, Dk.new (y.crash []) [], [q], by omega, rfl, by go_num, ⟨HDK10.out.below (below_alloc (Below.refl _ _) _)⟩, HLV2, ⟨by show 1 ≤ 30; decide⟩, ⟨R_one (Kd.slice 30 (Kd.slice 5 (Kd.int .u8))) rfl (Kd.M_row HX10.out) (fun _ h => h) trivial HN10.out⟩, ⟨blk_alloc HS10.out _⟩, ⟨below_alloc HB10.out _⟩, ⟨by rw [World.size_alloc]; have := HN10.out; omega⟩⟩
                      case measure => simp [intOf]; omega
                · have hge : decide (j < 4) = false := decide_eq_false h4
                  go_wp2_with (first | (go_at_call 41; refine (lg_wakes _).mono ?_; rintro e' w9 ⟨rfl, hb⟩; have HXX := Aside0.mk (below_step HB0.out hb); clear hb))
                  go_ret
                  exact ⟨rfl, HXX.out⟩
            · have t25 : decide (i < 25) = true := decide_eq_true h2
              have t25b : decide ((i : Int) < 25) = true := decide_eq_true (by omega)
              have hge2 : decide (i < l2.length) = true := decide_eq_true h1
              clear h1 h2
              go_wp2_with (first | (go_at_call 35; refine (lg_num _ _).mono ?_; rintro e' w' ⟨rfl, rfl⟩))
              obtain ⟨okd, hdk⟩ := HL0.out.disk
              have HDK := Aside0.mk hdk
              have HLV0 := Aside0.mk (fine_leaves HF.out)
              have HC00 := Aside0.mk (Kd.R_mono HC0.out (ok' := fun _ => True) (fun _ _ => trivial))
              clear hdk
              go_loopw [4, 6, 13] (fun v4 v6 v13 w' => ∃ (j dd bd : Nat) (okd : Nat → Prop) (y : Dk) (cans : List (List (List Int))), j ≤ 4 ∧ v4 = .pointer (some ⟨dd, 0, none⟩) ∧ v13 = .int .i64 j ∧ Aside0 (DkAt w' bd okd dd y) ∧ Aside0 (Leaves y cans) ∧ Aside0 (cans.length ≤ 30) ∧ Aside0 (Kd.R (Kd.slice 30 (Kd.slice 5 (Kd.int .u8))) 63 w' nb (fun _ => True) v6 cans) ∧ Aside0 (w'.heap[w.heap.size]? = some (.cells #[.int .i64 a0, .slice A1 l1.length c1, .slice A2 l2.length c2] 60 (0, 0))) ∧ Aside0 (Below w.heap.size w w') ∧ Aside0 (nb ≤ w'.heap.size)) (fun _ _ v13 _ => 4 - (intOf v13).toNat)
              case atStart => exact ⟨0, d, _, _, y, cans, Nat.zero_le _, rfl, rfl, HDK, HLV0, ⟨by have := HCL.out; omega⟩, HC00, HS0, HB0, HN0⟩
              case round =>
                clear HC00 HLV0 HDK HL0 HP0 HV0 HC0 HF HCL HNR HS0 HB0 HN0 hs2
                obtain ⟨j, dd, bd, okd, y, cans, hj4, rfl, rfl, HD0, HLV, HCL, HC0, HS0, HB0, HN0⟩ := hrel
                have hs2 := (blk_cell HS0.out 2).trans rfl
                obtain ⟨Ac, cc, rfl⟩ := Kd.R_slice HC0.out
                by_cases h4 : j < 4
                · have h4' : decide ((j : Int) < 4) = true := decide_eq_true (by omega)
                  have hb : Below wr.heap.size wr (wr.alloc (.cells #[] 3)) := below_alloc (Below.refl _ _) _
                  have HD5 := Aside0.mk (HD0.out.below hb)
                  have HC5 := Aside0.mk (Kd.R_below HC0.out hb)
                  have HS5 := Aside0.mk (blk_below HS0.out hb)
                  have HB5 := Aside0.mk (below_step HB0.out hb)
                  have HN5 := Aside0.mk (Nat.le_trans HN0.out hb.size)
                  clear hb hs2
                  have hs2 := (blk_cell HS5.out 2).trans rfl
                  by_cases hjl : j < l2.length
                  · obtain ⟨ad, AR, cR, P0, cp, rfl, hx0, hx1, hx2, hRc, hRC, hx3, hpc, hpC⟩ := act12_cells H2.out HB5.out j hjl
                    obtain ⟨⟨f0, f1, R, ps⟩, hact⟩ : ∃ q, q = l2.getD j z65 := ⟨_, rfl⟩
                    rw [← hact] at hx3 hpc hpC
                    clear hact hx0 hx1 hx2 hRc hRC
                    simp only at hx3 hpc hpC
                    have HPC := Aside0.mk hpc
                    have HPQ5 := Aside0.mk (Kd.C_below hpC HB5.out)
                    clear hpc hpC
                    by_cases h2 : j < 2
                    · have t2 : decide (j < 2) = true := decide_eq_true h2
                      have t2' : decide ((j : Int) < 2) = true := decide_eq_true (by omega)
                      clear h2
                      go_wp2_with fail
                      refine (lg_within (ps.length : Int) 5 (by decide) (by decide) _).mono ?_
                      rintro e' w6 ⟨r, hr, rfl, hb⟩
                      have HD6 := Aside0.mk (HD5.out.below hb)
                      have HPQ6 := Aside0.mk (Kd.C_below HPQ5.out hb)
                      have HC6 := Aside0.mk (Kd.R_below HC5.out hb)
                      have HS6 := Aside0.mk (blk_below HS5.out hb)
                      have HB6 := Aside0.mk (below_step HB5.out hb)
                      have HN6 := Aside0.mk (Nat.le_trans HN5.out hb.size)
                      have hw1 : wrap64 (1 + (r : Int)) = 1 + (r : Int) := w64 _ (by omega)
                      have HR5 := Aside0.mk hr
                      have HTT := Aside0.mk (Kd.R_reads' (R_one (base := 0) (e := 45) (ok := fun _ => True) (okp := fun _ => True) (W := w6) k45 rfl (p := ⟨1 + (r : Int)⟩) (u := .int .i64 (1 + (r : Int))) rfl (fun _ h => h) trivial (Nat.zero_le _))).2.2
                      have hb2 : Below w6.heap.size w6 (w6.alloc (.cells #[.int .i64 (1 + (r : Int))] 45)) := below_alloc (Below.refl _ _) _
                      have HD61 := Aside0.mk (HD6.out.below hb2)
                      have HPQ61 := Aside0.mk (Kd.C_below HPQ6.out hb2)
                      have HC61 := Aside0.mk (Kd.R_below HC6.out hb2)
                      have HS61 := Aside0.mk (blk_below HS6.out hb2)
                      have HB61 := Aside0.mk (below_step HB6.out hb2)
                      have HN61 := Aside0.mk (Nat.le_trans HN6.out hb2.size)
                      clear hb hb2 hr
                      go_wp2_with fail
                      refine (dk_Crash dd P0 cp ps _ _ _ _ HD61.out HPQ61.out HPC.out).mono ?_
                      rintro e' w7 ⟨v, rfl, hR, hb⟩
                      obtain ⟨q, n, hqm, hql, hqH, hcl, hlv⟩ := leaves_crash HLV.out HD61.out.fits ps [⟨1 + (r : Int)⟩]
                      have HQM := Aside0.mk hqm
                      have HQL := Aside0.mk hql
                      have HQH := Aside0.mk hqH
                      have HLN := Aside0.mk hcl
                      have HLV2 := Aside0.mk hlv
                      clear hqm hql hqH hlv hcl
                      obtain ⟨A7, c7, rfl, hc7, hC7⟩ := Kd.R_reads hR
                      have HD7 := Aside0.mk hC7
                      have HE7 := Aside0.mk hc7
                      have HC7 := Aside0.mk (Kd.R_below HC61.out hb)
                      have HS7 := Aside0.mk (blk_below HS61.out hb)
                      have HB7 := Aside0.mk (below_step HB61.out hb)
                      have HN7 := Aside0.mk (Nat.le_trans HN61.out hb.size)
                      have HT7 := Aside0.mk (Kd.C_below HTT.out hb)
                      clear hR hb hc7 hC7
                      go_wp2_with fail
                      refine (dk_New_ok A7 c7 (y.crash ps).length (y.crash ps) (some ⟨w6.heap.size, 0, none⟩) 1 1 [⟨1 + (r : Int)⟩] _ HD7.out HE7.out HT7.out (fun t ht => by rw [List.mem_singleton.1 ht]; have := HR5.out; exact wf_small _ (by show (0 : Int) ≤ 1 + (r : Int); omega) (by show 1 + (r : Int) ≤ 100; omega)) (by rw [HLN.out]; decide) (fun t ht => by rw [List.mem_singleton.1 ht]; show 1 ≤ 1 + (r : Int); omega)).mono ?_
                      rintro e' w8 ⟨d', rfl, hd, hb⟩
                      have HD8 := Aside0.mk hd
                      have HZ8 := Aside0.mk hb.size
                      have HC8 := Aside0.mk (Kd.R_below HC7.out hb)
                      have HS8 := Aside0.mk (blk_below HS7.out hb)
                      have HB8 := Aside0.mk (below_step HB7.out hb)
                      have HN8 := Aside0.mk (Nat.le_trans HN7.out hb.size)
                      clear hd hb
                      go_wp2_with (first | (go_at_call 35; refine (lg_num _ _).mono ?_; rintro e' w' ⟨rfl, rfl⟩))
                      refine (lg_Open d' _ _ _ (Dk.new (y.crash ps) [⟨1 + (r : Int)⟩]) n q (layP q) HD8.out HZ8.out rfl (by show 128 ≤ (y.crash ps).length; rw [HLN.out]; decide) (holds_opens HQH.out) (lays q HQL.out)).mono ?_
                      rintro e' w9 ⟨gg, NN, v, rfl, hlg, hN1, hN2, hS, hb⟩
                      obtain ⟨A9, c9, rfl, hc9, hC9⟩ := Kd.S_reads hS
                      have HX9 := Aside0.mk (Kd.R_mono (Kd.R_lower (Kd.S_R hS) (Nat.le_trans HN8.out hN1)) (ok' := fun _ => True) (fun _ _ => trivial))
                      have HD9 := Aside0.mk hC9
                      have HE9 := Aside0.mk hc9
                      have HDK9 := Aside0.mk (HD8.out.below hb)
                      have HC9 := Aside0.mk (Kd.R_below HC8.out hb)
                      have HS9 := Aside0.mk (blk_below HS8.out hb)
                      have HB9 := Aside0.mk (below_step HB8.out hb)
                      have HN9 := Aside0.mk (Nat.le_trans HN8.out hb.size)
                      clear hlg hN1 hN2 hS hb hc9 hC9
                      go_wp2_with (first | (go_at_call 35; refine (lg_num _ _).mono ?_; rintro e' w' ⟨rfl, rfl⟩))
                      obtain ⟨_, hcc, hcC⟩ := Kd.R_reads' HC9.out
                      refine (lg_among Ac cc cans A9 c9 q _ hcC hcc HD9.out HE9.out HLV.out.2.1 (by have := HCL.out; omega) HQM.out).mono ?_
                      rintro e' w10 ⟨rfl, nd, hw10⟩
                      have hb : Below w9.heap.size w9 w10 := hw10 ▸ pw_below_drewN (Below.refl _ _) nd
                      have HDK10 := Aside0.mk (HDK9.out.below hb)
                      have HX10 := Aside0.mk (Kd.R_below HX9.out hb)
                      have HS10 := Aside0.mk (blk_below HS9.out hb)
                      have HB10 := Aside0.mk (below_step HB9.out hb)
                      have HN10 := Aside0.mk (Nat.le_trans HN9.out hb.size)
                      clear hb hw10 hcc hcC
                      go_wp2
                      go_roundw
                      case rel => exact ⟨j + 1, d', _, _, Dk.new (y.crash ps) [⟨1 + (r : Int)⟩], [q], by omega, rfl, by go_num, ⟨HDK10.out.below (below_alloc (Below.refl _ _) _)⟩, HLV2, ⟨by show 1 ≤ 30; decide⟩, ⟨R_one (Kd.slice 30 (Kd.slice 5 (Kd.int .u8))) rfl (Kd.M_row HX10.out) (fun _ h => h) trivial HN10.out⟩, ⟨blk_alloc HS10.out _⟩, ⟨below_alloc HB10.out _⟩, ⟨by rw [World.size_alloc]; have := HN10.out; omega⟩⟩
                      case measure => simp [intOf]; omega
                    · have t2 : decide (j < 2) = false := decide_eq_false h2
                      have t2' : decide ((j : Int) < 2) = false := decide_eq_false (by omega)
                      clear h2
                      go_wp2_with fail
                      refine (dk_Crash dd P0 cp ps _ _ _ _ HD5.out HPQ5.out HPC.out).mono ?_
                      rintro e' w7 ⟨v, rfl, hR, hb⟩
                      obtain ⟨q, n, hqm, hql, hqH, hcl, hlv⟩ := leaves_crash HLV.out HD5.out.fits ps []
                      have HQM := Aside0.mk hqm
                      have HQL := Aside0.mk hql
                      have HQH := Aside0.mk hqH
                      have HLN := Aside0.mk hcl
                      have HLV2 := Aside0.mk hlv
                      clear hqm hql hqH hlv hcl
                      obtain ⟨A7, c7, rfl, hc7, hC7⟩ := Kd.R_reads hR
                      have HD7 := Aside0.mk hC7
                      have HE7 := Aside0.mk hc7
                      have HC7 := Aside0.mk (Kd.R_below HC5.out hb)
                      have HS7 := Aside0.mk (blk_below HS5.out hb)
                      have HB7 := Aside0.mk (below_step HB5.out hb)
                      have HN7 := Aside0.mk (Nat.le_trans HN5.out hb.size)
                      have HT7 := Aside0.mk (Kd.C_below (Kd.C_nil k45 _) hb)
                      clear hR hb hc7 hC7
                      go_wp2_with fail
                      refine (dk_New_ok A7 c7 (y.crash ps).length (y.crash ps) none 0 0 [] _ HD7.out HE7.out HT7.out (fun _ h => by cases h) (by rw [HLN.out]; decide) (fun _ h => by cases h)).mono ?_
                      rintro e' w8 ⟨d', rfl, hd, hb⟩
                      have HD8 := Aside0.mk hd
                      have HZ8 := Aside0.mk hb.size
                      have HC8 := Aside0.mk (Kd.R_below HC7.out hb)
                      have HS8 := Aside0.mk (blk_below HS7.out hb)
                      have HB8 := Aside0.mk (below_step HB7.out hb)
                      have HN8 := Aside0.mk (Nat.le_trans HN7.out hb.size)
                      clear hd hb
                      go_wp2_with (first | (go_at_call 35; refine (lg_num _ _).mono ?_; rintro e' w' ⟨rfl, rfl⟩))
                      refine (lg_Open d' _ _ _ (Dk.new (y.crash ps) []) n q (layP q) HD8.out HZ8.out rfl (by show 128 ≤ (y.crash ps).length; rw [HLN.out]; decide) (holds_opens HQH.out) (lays q HQL.out)).mono ?_
                      rintro e' w9 ⟨gg, NN, v, rfl, hlg, hN1, hN2, hS, hb⟩
                      obtain ⟨A9, c9, rfl, hc9, hC9⟩ := Kd.S_reads hS
                      have HX9 := Aside0.mk (Kd.R_mono (Kd.R_lower (Kd.S_R hS) (Nat.le_trans HN8.out hN1)) (ok' := fun _ => True) (fun _ _ => trivial))
                      have HD9 := Aside0.mk hC9
                      have HE9 := Aside0.mk hc9
                      have HDK9 := Aside0.mk (HD8.out.below hb)
                      have HC9 := Aside0.mk (Kd.R_below HC8.out hb)
                      have HS9 := Aside0.mk (blk_below HS8.out hb)
                      have HB9 := Aside0.mk (below_step HB8.out hb)
                      have HN9 := Aside0.mk (Nat.le_trans HN8.out hb.size)
                      clear hlg hN1 hN2 hS hb hc9 hC9
                      go_wp2_with (first | (go_at_call 35; refine (lg_num _ _).mono ?_; rintro e' w' ⟨rfl, rfl⟩))
                      obtain ⟨_, hcc, hcC⟩ := Kd.R_reads' HC9.out
                      refine (lg_among Ac cc cans A9 c9 q _ hcC hcc HD9.out HE9.out HLV.out.2.1 (by have := HCL.out; omega) HQM.out).mono ?_
                      rintro e' w10 ⟨rfl, nd, hw10⟩
                      have hb : Below w9.heap.size w9 w10 := hw10 ▸ pw_below_drewN (Below.refl _ _) nd
                      have HDK10 := Aside0.mk (HDK9.out.below hb)
                      have HX10 := Aside0.mk (Kd.R_below HX9.out hb)
                      have HS10 := Aside0.mk (blk_below HS9.out hb)
                      have HB10 := Aside0.mk (below_step HB9.out hb)
                      have HN10 := Aside0.mk (Nat.le_trans HN9.out hb.size)
                      clear hb hw10 hcc hcC
                      go_wp2
                      go_roundw
                      case rel => exact ⟨j + 1, d', _, _, Dk.new (y.crash ps) [], [q], by omega, rfl, by go_num, ⟨HDK10.out.below (below_alloc (Below.refl _ _) _)⟩, HLV2, ⟨by show 1 ≤ 30; decide⟩, ⟨R_one (Kd.slice 30 (Kd.slice 5 (Kd.int .u8))) rfl (Kd.M_row HX10.out) (fun _ h => h) trivial HN10.out⟩, ⟨blk_alloc HS10.out _⟩, ⟨below_alloc HB10.out _⟩, ⟨by rw [World.size_alloc]; have := HN10.out; omega⟩⟩
                      case measure => simp [intOf]; omega
                  · have hge : decide (j < l2.length) = false := decide_eq_false hjl
                    have HPQ5 : Aside0 ((Kd.int .i64).C (wr.alloc (.cells #[] 3)) (some ⟨wr.heap.size, 0, none⟩) ([] : List Int).length []) := ⟨⟨rfl, by decide, fun h => absurd h (Nat.lt_irrefl 0)⟩⟩
                    clear hjl
                    by_cases h2 : j < 2
                    · have t2 : decide (j < 2) = true := decide_eq_true h2
                      have t2' : decide ((j : Int) < 2) = true := decide_eq_true (by omega)
                      clear h2
                      go_wp2_with fail
                      refine (lg_within (0 : Int) 5 (by decide) (by decide) _).mono ?_
                      rintro e' w6 ⟨r, hr, rfl, hb⟩
                      have HD6 := Aside0.mk (HD5.out.below hb)
                      have HPQ6 := Aside0.mk (Kd.C_below HPQ5.out hb)
                      have HC6 := Aside0.mk (Kd.R_below HC5.out hb)
                      have HS6 := Aside0.mk (blk_below HS5.out hb)
                      have HB6 := Aside0.mk (below_step HB5.out hb)
                      have HN6 := Aside0.mk (Nat.le_trans HN5.out hb.size)
                      have hw1 : wrap64 (1 + (r : Int)) = 1 + (r : Int) := w64 _ (by omega)
                      have HR5 := Aside0.mk hr
                      have HTT := Aside0.mk (Kd.R_reads' (R_one (base := 0) (e := 45) (ok := fun _ => True) (okp := fun _ => True) (W := w6) k45 rfl (p := ⟨1 + (r : Int)⟩) (u := .int .i64 (1 + (r : Int))) rfl (fun _ h => h) trivial (Nat.zero_le _))).2.2
                      have hb2 : Below w6.heap.size w6 (w6.alloc (.cells #[.int .i64 (1 + (r : Int))] 45)) := below_alloc (Below.refl _ _) _
                      have HD61 := Aside0.mk (HD6.out.below hb2)
                      have HPQ61 := Aside0.mk (Kd.C_below HPQ6.out hb2)
                      have HC61 := Aside0.mk (Kd.R_below HC6.out hb2)
                      have HS61 := Aside0.mk (blk_below HS6.out hb2)
                      have HB61 := Aside0.mk (below_step HB6.out hb2)
                      have HN61 := Aside0.mk (Nat.le_trans HN6.out hb2.size)
                      clear hb hb2 hr
                      go_wp2_with fail
                      refine (dk_Crash dd (some ⟨wr.heap.size, 0, none⟩) 0 [] _ _ _ _ HD61.out HPQ61.out (Nat.le_refl _)).mono ?_
                      rintro e' w7 ⟨v, rfl, hR, hb⟩
                      obtain ⟨q, n, hqm, hql, hqH, hcl, hlv⟩ := leaves_crash HLV.out HD61.out.fits [] [⟨1 + (r : Int)⟩]
                      have HQM := Aside0.mk hqm
                      have HQL := Aside0.mk hql
                      have HQH := Aside0.mk hqH
                      have HLN := Aside0.mk hcl
                      have HLV2 := Aside0.mk hlv
                      clear hqm hql hqH hlv hcl
                      obtain ⟨A7, c7, rfl, hc7, hC7⟩ := Kd.R_reads hR
                      have HD7 := Aside0.mk hC7
                      have HE7 := Aside0.mk hc7
                      have HC7 := Aside0.mk (Kd.R_below HC61.out hb)
                      have HS7 := Aside0.mk (blk_below HS61.out hb)
                      have HB7 := Aside0.mk (below_step HB61.out hb)
                      have HN7 := Aside0.mk (Nat.le_trans HN61.out hb.size)
                      have HT7 := Aside0.mk (Kd.C_below HTT.out hb)
                      clear hR hb hc7 hC7
                      go_wp2_with fail
                      refine (dk_New_ok A7 c7 (y.crash []).length (y.crash []) (some ⟨w6.heap.size, 0, none⟩) 1 1 [⟨1 + (r : Int)⟩] _ HD7.out HE7.out HT7.out (fun t ht => by rw [List.mem_singleton.1 ht]; have := HR5.out; exact wf_small _ (by show (0 : Int) ≤ 1 + (r : Int); omega) (by show 1 + (r : Int) ≤ 100; omega)) (by rw [HLN.out]; decide) (fun t ht => by rw [List.mem_singleton.1 ht]; show 1 ≤ 1 + (r : Int); omega)).mono ?_
                      rintro e' w8 ⟨d', rfl, hd, hb⟩
                      have HD8 := Aside0.mk hd
                      have HZ8 := Aside0.mk hb.size
                      have HC8 := Aside0.mk (Kd.R_below HC7.out hb)
                      have HS8 := Aside0.mk (blk_below HS7.out hb)
                      have HB8 := Aside0.mk (below_step HB7.out hb)
                      have HN8 := Aside0.mk (Nat.le_trans HN7.out hb.size)
                      clear hd hb
                      go_wp2_with (first | (go_at_call 35; refine (lg_num _ _).mono ?_; rintro e' w' ⟨rfl, rfl⟩))
                      refine (lg_Open d' _ _ _ (Dk.new (y.crash []) [⟨1 + (r : Int)⟩]) n q (layP q) HD8.out HZ8.out rfl (by show 128 ≤ (y.crash []).length; rw [HLN.out]; decide) (holds_opens HQH.out) (lays q HQL.out)).mono ?_
                      rintro e' w9 ⟨gg, NN, v, rfl, hlg, hN1, hN2, hS, hb⟩
                      obtain ⟨A9, c9, rfl, hc9, hC9⟩ := Kd.S_reads hS
                      have HX9 := Aside0.mk (Kd.R_mono (Kd.R_lower (Kd.S_R hS) (Nat.le_trans HN8.out hN1)) (ok' := fun _ => True) (fun _ _ => trivial))
                      have HD9 := Aside0.mk hC9
                      have HE9 := Aside0.mk hc9
                      have HDK9 := Aside0.mk (HD8.out.below hb)
                      have HC9 := Aside0.mk (Kd.R_below HC8.out hb)
                      have HS9 := Aside0.mk (blk_below HS8.out hb)
                      have HB9 := Aside0.mk (below_step HB8.out hb)
                      have HN9 := Aside0.mk (Nat.le_trans HN8.out hb.size)
                      clear hlg hN1 hN2 hS hb hc9 hC9
                      go_wp2_with (first | (go_at_call 35; refine (lg_num _ _).mono ?_; rintro e' w' ⟨rfl, rfl⟩))
                      obtain ⟨_, hcc, hcC⟩ := Kd.R_reads' HC9.out
                      refine (lg_among Ac cc cans A9 c9 q _ hcC hcc HD9.out HE9.out HLV.out.2.1 (by have := HCL.out; omega) HQM.out).mono ?_
                      rintro e' w10 ⟨rfl, nd, hw10⟩
                      have hb : Below w9.heap.size w9 w10 := hw10 ▸ pw_below_drewN (Below.refl _ _) nd
                      have HDK10 := Aside0.mk (HDK9.out.below hb)
                      have HX10 := Aside0.mk (Kd.R_below HX9.out hb)
                      have HS10 := Aside0.mk (blk_below HS9.out hb)
                      have HB10 := Aside0.mk (below_step HB9.out hb)
                      have HN10 := Aside0.mk (Nat.le_trans HN9.out hb.size)
                      clear hb hw10 hcc hcC
                      go_wp2
                      go_roundw
                      case rel => exact ⟨j + 1, d', _, _, Dk.new (y.crash []) [⟨1 + (r : Int)⟩], [q], by omega, rfl, by go_num, ⟨HDK10.out.below (below_alloc (Below.refl _ _) _)⟩, HLV2, ⟨by show 1 ≤ 30; decide⟩, ⟨R_one (Kd.slice 30 (Kd.slice 5 (Kd.int .u8))) rfl (Kd.M_row HX10.out) (fun _ h => h) trivial HN10.out⟩, ⟨blk_alloc HS10.out _⟩, ⟨below_alloc HB10.out _⟩, ⟨by rw [World.size_alloc]; have := HN10.out; omega⟩⟩
                      case measure => simp [intOf]; omega
                    · have t2 : decide (j < 2) = false := decide_eq_false h2
                      have t2' : decide ((j : Int) < 2) = false := decide_eq_false (by omega)
                      clear h2
                      go_wp2_with fail
                      refine (dk_Crash dd (some ⟨wr.heap.size, 0, none⟩) 0 [] _ _ _ _ HD5.out HPQ5.out (Nat.le_refl _)).mono ?_
                      rintro e' w7 ⟨v, rfl, hR, hb⟩
                      obtain ⟨q, n, hqm, hql, hqH, hcl, hlv⟩ := leaves_crash HLV.out HD5.out.fits [] []
                      have HQM := Aside0.mk hqm
                      have HQL := Aside0.mk hql
                      have HQH := Aside0.mk hqH
                      have HLN := Aside0.mk hcl
                      have HLV2 := Aside0.mk hlv
                      clear hqm hql hqH hlv hcl
                      obtain ⟨A7, c7, rfl, hc7, hC7⟩ := Kd.R_reads hR
                      have HD7 := Aside0.mk hC7
                      have HE7 := Aside0.mk hc7
                      have HC7 := Aside0.mk (Kd.R_below HC5.out hb)
                      have HS7 := Aside0.mk (blk_below HS5.out hb)
                      have HB7 := Aside0.mk (below_step HB5.out hb)
                      have HN7 := Aside0.mk (Nat.le_trans HN5.out hb.size)
                      have HT7 := Aside0.mk (Kd.C_below (Kd.C_nil k45 _) hb)
                      clear hR hb hc7 hC7
                      go_wp2_with fail
                      refine (dk_New_ok A7 c7 (y.crash []).length (y.crash []) none 0 0 [] _ HD7.out HE7.out HT7.out (fun _ h => by cases h) (by rw [HLN.out]; decide) (fun _ h => by cases h)).mono ?_
                      rintro e' w8 ⟨d', rfl, hd, hb⟩
                      have HD8 := Aside0.mk hd
                      have HZ8 := Aside0.mk hb.size
                      have HC8 := Aside0.mk (Kd.R_below HC7.out hb)
                      have HS8 := Aside0.mk (blk_below HS7.out hb)
                      have HB8 := Aside0.mk (below_step HB7.out hb)
                      have HN8 := Aside0.mk (Nat.le_trans HN7.out hb.size)
                      clear hd hb
                      go_wp2_with (first | (go_at_call 35; refine (lg_num _ _).mono ?_; rintro e' w' ⟨rfl, rfl⟩))
                      refine (lg_Open d' _ _ _ (Dk.new (y.crash []) []) n q (layP q) HD8.out HZ8.out rfl (by show 128 ≤ (y.crash []).length; rw [HLN.out]; decide) (holds_opens HQH.out) (lays q HQL.out)).mono ?_
                      rintro e' w9 ⟨gg, NN, v, rfl, hlg, hN1, hN2, hS, hb⟩
                      obtain ⟨A9, c9, rfl, hc9, hC9⟩ := Kd.S_reads hS
                      have HX9 := Aside0.mk (Kd.R_mono (Kd.R_lower (Kd.S_R hS) (Nat.le_trans HN8.out hN1)) (ok' := fun _ => True) (fun _ _ => trivial))
                      have HD9 := Aside0.mk hC9
                      have HE9 := Aside0.mk hc9
                      have HDK9 := Aside0.mk (HD8.out.below hb)
                      have HC9 := Aside0.mk (Kd.R_below HC8.out hb)
                      have HS9 := Aside0.mk (blk_below HS8.out hb)
                      have HB9 := Aside0.mk (below_step HB8.out hb)
                      have HN9 := Aside0.mk (Nat.le_trans HN8.out hb.size)
                      clear hlg hN1 hN2 hS hb hc9 hC9
                      go_wp2_with (first | (go_at_call 35; refine (lg_num _ _).mono ?_; rintro e' w' ⟨rfl, rfl⟩))
                      obtain ⟨_, hcc, hcC⟩ := Kd.R_reads' HC9.out
                      refine (lg_among Ac cc cans A9 c9 q _ hcC hcc HD9.out HE9.out HLV.out.2.1 (by have := HCL.out; omega) HQM.out).mono ?_
                      rintro e' w10 ⟨rfl, nd, hw10⟩
                      have hb : Below w9.heap.size w9 w10 := hw10 ▸ pw_below_drewN (Below.refl _ _) nd
                      have HDK10 := Aside0.mk (HDK9.out.below hb)
                      have HX10 := Aside0.mk (Kd.R_below HX9.out hb)
                      have HS10 := Aside0.mk (blk_below HS9.out hb)
                      have HB10 := Aside0.mk (below_step HB9.out hb)
                      have HN10 := Aside0.mk (Nat.le_trans HN9.out hb.size)
                      clear hb hw10 hcc hcC
                      go_wp2
                      go_roundw
                      case rel => exact ⟨j + 1, d', _, _, Dk.new (y.crash []) [], [q], by omega, rfl, by go_num, ⟨HDK10.out.below (below_alloc (Below.refl _ _) _)⟩, HLV2, ⟨by show 1 ≤ 30; decide⟩, ⟨R_one (Kd.slice 30 (Kd.slice 5 (Kd.int .u8))) rfl (Kd.M_row HX10.out) (fun _ h => h) trivial HN10.out⟩, ⟨blk_alloc HS10.out _⟩, ⟨below_alloc HB10.out _⟩, ⟨by rw [World.size_alloc]; have := HN10.out; omega⟩⟩
                      case measure => simp [intOf]; omega
                · have hge : decide (j < 4) = false := decide_eq_false h4
                  go_wp2_with (first | (go_at_call 41; refine (lg_wakes _).mono ?_; rintro e' w9 ⟨rfl, hb⟩; have HXX := Aside0.mk (below_step HB0.out hb); clear hb))
                  go_ret
                  exact ⟨rfl, HXX.out⟩
          · obtain ⟨ad, AR, cR, P0, cp, rfl, hx0, hx1, hx2, hRc, hRC, hx3, hpc, hpC⟩ := act12_cells H2.out HB0.out i hlt
            have h80 := HHV.out i h25 hlt
            obtain ⟨⟨f0, f1, R, ps⟩, hact⟩ : ∃ q, q = l2.getD i z65 := ⟨_, rfl⟩
            rw [← hact] at hx0 hx1 hx2 hx3 hpc hpC hRc hRC h80
            clear hact
            simp only at hx0 hx1 hx2 hx3 hpc hpC hRc hRC h80
            have H80 := Aside0.mk h80
            have HI : Aside0 (i < 25 ∧ i < l2.length) := ⟨⟨h25, hlt⟩⟩
            have HNR' := Aside0.mk (HNR.out rfl)
            clear HNR
            have HNR := HNR'
            clear HNR'
            have HG : Aside0 (Good 12800 y nr rs0 rs fr) := ⟨by obtain ⟨_, _, ⟨_, h, _⟩ | ⟨h, _⟩⟩ := HF.out; exact h; exact absurd h (by decide)⟩
            have HLL0 : Aside0 (layLen rs ≤ 6400) := ⟨Nat.le_trans HG.out.2.2.2.2.2 (by decide)⟩
            have HRL : Aside0 (rs.length ≤ 1000) := ⟨by have := layLen_count rs; have := HLL0.out; omega⟩
            have HPG : Aside0 (P g) := ⟨by obtain ⟨_, _, _, _, _, _, _, _, _, ho, _⟩ := HL0.out; exact ho⟩
            have HPC := Aside0.mk hpc
            have HPP0 := Aside0.mk hpC
            have HRCC := Aside0.mk hRc
            have HRC0 := Aside0.mk hRC
            have hb : Below wr.heap.size wr (wr.alloc (.cells #[.int .i64 f0, .int .i64 f1, .slice AR R.length cR, .slice P0 ps.length cp] 65)) := below_alloc (Below.refl _ _) _
            have HL5 := Aside0.mk (HL0.out.below hb)
            have HV5 := Aside0.mk (Kd.R_below HV0.out hb)
            have HC5 := Aside0.mk (Kd.R_below HC0.out hb)
            have HS5 := Aside0.mk (blk_below HS0.out hb)
            have HB5 := Aside0.mk (below_step HB0.out hb)
            have HN5 := Aside0.mk (Nat.le_trans HN0.out hb.size)
            have HP5 : Aside0 (∀ k, P k → k < (wr.alloc (.cells #[.int .i64 f0, .int .i64 f1, .slice AR R.length cR, .slice P0 ps.length cp] 65)).heap.size) := ⟨fun k hk => Nat.lt_of_lt_of_le (HP0.out k hk) hb.size⟩
            have HA5 := Aside0.mk (blk_new wr (.cells #[.int .i64 f0, .int .i64 f1, .slice AR R.length cR, .slice P0 ps.length cp] 65))
            clear hRc hRC hpc hpC h80 hb
            go_wp2_with (first | (go_at_call 35; refine (lg_num _ _).mono ?_; rintro e' w' ⟨rfl, rfl⟩))
            refine (lg_within f0 8 (by decide) (by decide) _).mono ?_
            rintro e' w6 ⟨r8, hr8, rfl, hb⟩
            have HR8 := Aside0.mk hr8
            have HL6 := Aside0.mk (HL5.out.below hb)
            have HV6 := Aside0.mk (Kd.R_below HV5.out hb)
            have HC6 := Aside0.mk (Kd.R_below HC5.out hb)
            have HS6 := Aside0.mk (blk_below HS5.out hb)
            have HA6 := Aside0.mk (blk_below HA5.out hb)
            have HB6 := Aside0.mk (below_step HB5.out hb)
            have HN6 := Aside0.mk (Nat.le_trans HN5.out hb.size)
            have HP6 : Aside0 (∀ k, P k → k < w6.heap.size) := ⟨fun k hk => Nat.lt_of_lt_of_le (HP5.out k hk) hb.size⟩
            obtain ⟨_, hvc, hvC⟩ := Kd.R_reads' HV6.out
            have HVC := Aside0.mk hvc
            have HVV := Aside0.mk hvC
            clear hb hx0 hx1 hx2 hx3 hs2 hvc hvC
            have ha2 := (blk_cell HA6.out 2).trans rfl
            by_cases q4 : r8 = 4
            · subst q4
              clear HR8
              obtain ⟨kr, jr, hjr, hrp⟩ := replaced_f rs f0 f1 R ps (by have := HLL0.out; omega) (by have := H80.out; omega)
              obtain ⟨q, hq⟩ : ∃ q, q = rs.drop jr ++ [R] := ⟨_, rfl⟩
              have hql : layLen q ≤ 20000 := by rw [hq, layLen_snoc]; have := layLen_drop_le rs jr; have := HLL0.out; have := H80.out; omega
              rw [← hq] at hrp
              have HRP := Aside0.mk hrp
              have HQL := Aside0.mk hql
              clear hq hql hrp hjr
              have ha0 := (blk_cell HA6.out 0).trans rfl
              have ha1 := (blk_cell HA6.out 1).trans rfl
              have ha3 := (blk_cell HA6.out 3).trans rfl
              go_wp2_with fail
              refine (gangwaylaw12_replaced.calls kr An cn rs f0 f1 AR cR R P0 cp ps q _ HVV.out HVC.out (Kd.C_below HRC0.out HB6.out) HRCC.out (Kd.C_below HPP0.out HB6.out) HPC.out HRP.out).mono ?_
              rintro e' w13 ⟨v, rfl, hS, hb⟩
              obtain ⟨A13, c13, rfl⟩ := Kd.S_slice hS
              have HSZ : Aside0 (w6.heap.size ≤ w6.heap.size) := ⟨Nat.le_refl _⟩
              have HX13 := Aside0.mk (Kd.R_mono (Kd.R_lower (Kd.R_bound (Kd.S_R hS)) (Nat.le_trans HN6.out HSZ.out)) (ok' := fun k => ¬ P k) (fun k hk hp => by have := HP6.out k hp; have := hk.2.1; have := HSZ.out; omega))
              have HL13 := Aside0.mk (HL6.out.below hb)
              have HV13 := Aside0.mk (Kd.R_below HV6.out hb)
              have HC13 := Aside0.mk (Kd.R_below HC6.out hb)
              have HS13 := Aside0.mk (blk_below HS6.out hb)
              have HB13 := Aside0.mk (below_step HB6.out hb)
              have HN13 := Aside0.mk (Nat.le_trans HN6.out hb.size)
              have HP13 : Aside0 (∀ k, P k → k < w13.heap.size) := ⟨fun k hk => Nat.lt_of_lt_of_le (HP6.out k hk) hb.size⟩
              obtain ⟨_, hxc, hxC⟩ := Kd.R_reads' HX13.out
              have HXC := Aside0.mk hxc
              have HXV := Aside0.mk hxC
              clear hS hb HSZ ha0 ha1 ha2 ha3 hxc hxC HVV
              go_wp2_with fail
              refine (lg_copyCells A13 c13 q _ HXV.out HXC.out (by have := HQL.out; omega)).mono ?_
              rintro e' w14 ⟨v, rfl, hS, hb⟩
              obtain ⟨A14, c14, rfl, hc14, hC14⟩ := Kd.S_reads hS
              have HD14 := Aside0.mk hC14
              have HE14 := Aside0.mk hc14
              have HL14 := Aside0.mk (HL13.out.below hb)
              have HV14 := Aside0.mk (Kd.R_below HV13.out hb)
              have HC14 := Aside0.mk (Kd.R_below HC13.out hb)
              have HX14 := Aside0.mk (Kd.R_below HX13.out hb)
              have HS14 := Aside0.mk (blk_below HS13.out hb)
              have HB14 := Aside0.mk (below_step HB13.out hb)
              have HN14 := Aside0.mk (Nat.le_trans HN13.out hb.size)
              have HP14 : Aside0 (∀ k, P k → k < w14.heap.size) := ⟨fun k hk => Nat.lt_of_lt_of_le (HP13.out k hk) hb.size⟩
              clear hS hb hc14 hC14
              go_wp2_with fail
              refine (lg_ReplaceG 12800 size_12800 g A14 c14 q _ nb P d y nr rs0 rs fr HL14.out HN14.out HG.out HD14.out HE14.out (by have := HQL.out; omega)).mono ?_
              rintro e' w15 ⟨cd, rs', fr', rfl, hlg, hk, hb, hcase⟩
              obtain ⟨P2, hP2⟩ : ∃ Q : Nat → Prop, Q = fun k => (P k ∨ w14.heap.size ≤ k) ∧ k < w15.heap.size := ⟨_, rfl⟩
              have HL15 := Aside0.mk hlg.bound
              rw [← hP2] at HL15
              have HV15 := Aside0.mk (Kd.R_mono (Kd.R_kept (Kd.R_mono (Kd.R_bound HV14.out) (ok' := fun k => ¬ P k ∧ k < w14.heap.size) (fun k hk => ⟨hk.1, hk.2.2.1⟩)) hk (fun k hk he => hk.1 (by rw [show k = g from he]; exact HPG.out))) (ok' := fun k => ¬ P2 k) (fun k hk h2 => by rw [hP2] at h2; exact h2.1.elim hk.1 (fun h => by have := hk.2; omega)))
              have HC15 := Aside0.mk (Kd.R_mono (Kd.R_kept (Kd.R_mono (Kd.R_bound HC14.out) (ok' := fun k => ¬ P k ∧ k < w14.heap.size) (fun k hk => ⟨hk.1, hk.2.2.1⟩)) hk (fun k hk he => hk.1 (by rw [show k = g from he]; exact HPG.out))) (ok' := fun k => ¬ P2 k) (fun k hk h2 => by rw [hP2] at h2; exact h2.1.elim hk.1 (fun h => by have := hk.2; omega)))
              have HX15 := Aside0.mk (Kd.R_mono (Kd.R_kept (Kd.R_mono (Kd.R_bound HX14.out) (ok' := fun k => ¬ P k ∧ k < w14.heap.size) (fun k hk => ⟨hk.1, hk.2.2.1⟩)) hk (fun k hk he => hk.1 (by rw [show k = g from he]; exact HPG.out))) (ok' := fun k => ¬ P2 k) (fun k hk h2 => by rw [hP2] at h2; exact h2.1.elim hk.1 (fun h => by have := hk.2; omega)))
              have HS15 := Aside0.mk ((hb.block _ HW.out).trans HS14.out)
              have HB15 := Aside0.mk (HB14.out.trans (hb.mono (Nat.le_of_lt HW.out)))
              have HN15 := Aside0.mk (Nat.le_trans HN14.out hb.size)
              have HP15 : Aside0 (∀ k, P2 k → k < w15.heap.size) := ⟨fun k hk => by rw [hP2] at hk; exact hk.2⟩
              clear hlg hk hb hP2
              rcases hcase with ⟨rfl, hq1, hG⟩ | ⟨rfl, hq1, hq2, hlt⟩
              · rw [hq1] at HL15
                clear hq1
                have HGD := Aside0.mk hG
                clear hG
                have HM := Aside0.mk (Kd.M_row (Kd.R_apart' HX15.out (Kd.R_typed HC15.out) (by decide)))
                have HXR := Aside0.mk (Kd.R_apart' HX15.out (Kd.R_typed HC15.out) (by decide))
                have HLL : Aside0 ((cans.length + 1) * 24 ≤ 140737488355328) := ⟨by have := HCL.out; have := HI.out; omega⟩
                have HFN : Aside0 (Fine 0 y nr rs0 q fr' (cans ++ [q])) := ⟨fine_next HF.out HGD.out⟩
                go_wp2_with (first | (go_at_call 35; refine (lg_num _ _).mono ?_; rintro e' w' ⟨rfl, rfl⟩) | (at_builtin; (refine Kd.R_append (Kd.slice 30 (Kd.slice 5 (Kd.int .u8))) (w0 := w15) nb rfl (.tmp 135) (.tmp 137) 73 63 (.slice none 0 0) 24 rfl Try.underlying73 infoRows rfl Nat.one_pos (Nat.succ_pos 23) (.slice Ac cans.length cc) cans q [.slice A13 q.length c13] (fun k => ¬ P2 k) (fun k => ¬ P2 k ∧ some k ≠ (Value.slice Ac cans.length cc).ownBlock) rfl rfl ?aP ?aK ?aF ?aO ?aB ?aS ?aL ?_; (case aP => exact HM.out); (case aK => exact fun k hk => hk); (case aF => exact fun k hk he => by have := HP15.out k he; omega); (case aO => exact HC15.out); (case aB => exact Below.refl _ _); (case aS => exact HN15.out); (case aL => exact HLL.out); intro v16 w16 hR hBB hg hat; obtain ⟨A16, c16, rfl⟩ := Kd.R_slice hR; have HC16 := Aside0.mk hR; have HBB := Aside0.mk hBB; have HG := Aside0.mk hg; clear hR hat hBB hg)))
                have hkk : Kept w15 w16 (fun k => some k = (Value.slice Ac cans.length cc).ownBlock) := Kept.of_grown HG.out (Kept.refl _ _) (fun k hk => .inl hk.symm)
                have HL16 := Aside0.mk (HL15.out.kept hkk (fun k hk he => HC15.out.1 k he.symm hk))
                have HV16 := Aside0.mk (Kd.R_mono (Kd.R_kept HXR.out hkk (fun k hk he => hk.2 he)) (ok' := fun k => ¬ P2 k) (fun k hk => hk.1))
                have HS16 := Aside0.mk ((HBB.out.block _ HW.out).trans HS15.out)
                have HB16 := Aside0.mk (HB15.out.trans (HBB.out.mono (Nat.le_of_lt HW.out)))
                have HN16 := Aside0.mk (Nat.le_trans HN15.out HBB.out.size)
                have HP16 : Aside0 (∀ k, P2 k → k < w16.heap.size) := ⟨fun k hk => Nat.lt_of_lt_of_le (HP15.out k hk) HBB.out.size⟩
                clear hkk
                go_roundw
                case rel => exact ⟨i + 1, 0, P2, y, nr, rs0, q, fr', cans ++ [q], by have := HI.out; omega, by omega, rfl, by go_num, HL16, HP16, HV16, ⟨by have h := HC16.out; first | exact h | (rw [List.length_append] at h; exact h)⟩, HFN, ⟨by have := HCL.out; rw [List.length_append]; show _ + 1 ≤ _; first | omega | done | (simp; omega)⟩, ⟨fun h => by have := HNR.out; omega⟩, HS16, HB16, HN16⟩
                case measure => simp [intOf]; omega
              · rw [hq1, hq2] at HL15
                clear hq1 hq2
                have HGG := Aside0.mk hlt
                clear hlt
                go_wp2_with (first | (go_at_call 35; refine (lg_num _ _).mono ?_; rintro e' w' ⟨rfl, rfl⟩))
                obtain ⟨_, hxc, hxC⟩ := Kd.R_reads' HX15.out
                refine (lg_may A13 c13 q 200 _ hxC hxc (by have := HQL.out; omega) (by decide) HGG.out).mono ?_
                rintro e' w16 ⟨rfl, nd, hw16⟩
                have hb : Below w15.heap.size w15 w16 := hw16 ▸ pw_below_drewN (Below.refl _ _) nd
                have HL16 := Aside0.mk (HL15.out.below hb)
                have HV16 := Aside0.mk (Kd.R_below HV15.out hb)
                have HC16 := Aside0.mk (Kd.R_below HC15.out hb)
                have HS16 := Aside0.mk (blk_below HS15.out hb)
                have HB16 := Aside0.mk (below_step HB15.out hb)
                have HN16 := Aside0.mk (Nat.le_trans HN15.out hb.size)
                have HP16 : Aside0 (∀ k, P2 k → k < w16.heap.size) := ⟨fun k hk => Nat.lt_of_lt_of_le (HP15.out k hk) hb.size⟩
                clear hb hw16 hxc hxC
                go_wp2
                go_roundw
                case rel => exact ⟨i + 1, 0, P2, y, nr, rs0, rs, fr, cans, by have := HI.out; omega, by omega, rfl, by go_num, HL16, HP16, HV16, HC16, HF, ⟨by have := HCL.out; omega⟩, ⟨fun _ => by have := HNR.out; omega⟩, HS16, HB16, HN16⟩
                case measure => simp [intOf]; omega
            · by_cases q5 : r8 = 5
              · subst q5
                clear HR8 q4
                go_wp2_with fail
                refine (lg_SyncG 12800 size_12800 g _ nb P d y nr rs0 rs fr HL6.out HN6.out HG.out (by have := HNR.out; have := HI.out; omega)).mono ?_
                rintro e' w15 ⟨cd, y', nr', fr', rfl, hlg, hk, hb, hcase⟩
                clear ha2
                obtain ⟨P2, hP2⟩ : ∃ Q : Nat → Prop, Q = fun k => (P k ∨ w6.heap.size ≤ k) ∧ k < w15.heap.size := ⟨_, rfl⟩
                have HL15 := Aside0.mk hlg.bound
                rw [← hP2] at HL15
                have HV15 := Aside0.mk (Kd.R_mono (Kd.R_kept (Kd.R_mono (Kd.R_bound HV6.out) (ok' := fun k => ¬ P k ∧ k < w6.heap.size) (fun k hk => ⟨hk.1, hk.2.2.1⟩)) hk (fun k hk => hk.1)) (ok' := fun k => ¬ P2 k) (fun k hk h2 => by rw [hP2] at h2; exact h2.1.elim hk.1 (fun h => by have := hk.2; omega)))
                have HC15 := Aside0.mk (Kd.R_mono (Kd.R_kept (Kd.R_mono (Kd.R_bound HC6.out) (ok' := fun k => ¬ P k ∧ k < w6.heap.size) (fun k hk => ⟨hk.1, hk.2.2.1⟩)) hk (fun k hk => hk.1)) (ok' := fun k => ¬ P2 k) (fun k hk h2 => by rw [hP2] at h2; exact h2.1.elim hk.1 (fun h => by have := hk.2; omega)))
                have HS15 := Aside0.mk ((hb.block _ HW.out).trans HS6.out)
                have HB15 := Aside0.mk (HB6.out.trans (hb.mono (Nat.le_of_lt HW.out)))
                have HN15 := Aside0.mk (Nat.le_trans HN6.out hb.size)
                have HP15 : Aside0 (∀ k, P2 k → k < w15.heap.size) := ⟨fun k hk => by rw [hP2] at hk; exact hk.2⟩
                clear hlg hk hb hP2
                rcases hcase with ⟨rfl, hG, htr, hnr⟩ | ⟨rfl, hl, _, hm⟩
                · have HGD := Aside0.mk hG
                  have HNR2 := Aside0.mk hnr
                  clear hG htr hnr HC15
                  have HC15 : Aside0 (Kd.R (Kd.slice 30 (Kd.slice 5 (Kd.int .u8))) 63 w15 nb (fun k => ¬ P2 k) (.slice none 0 0) []) := ⟨Kd.R_nil _ _ _ _ _⟩
                  have HM := Aside0.mk (Kd.M_row (Kd.R_apart' HV15.out (Kd.R_typed HC15.out) (by decide)))
                  have HXR := Aside0.mk (Kd.R_apart' HV15.out (Kd.R_typed HC15.out) (by decide))
                  have HLL : Aside0 ((([] : List (List (List Int))).length + 1) * 24 ≤ 140737488355328) := ⟨by have := HCL.out; have := HI.out; simp; try omega⟩
                  have HFN : Aside0 (Fine 0 y' nr' rs rs fr' (([] : List (List (List Int))) ++ [rs])) := ⟨fine_synced HGD.out⟩
                  go_wp2_with (first | (go_at_call 35; refine (lg_num _ _).mono ?_; rintro e' w' ⟨rfl, rfl⟩) | (at_builtin; (refine Kd.R_append (Kd.slice 30 (Kd.slice 5 (Kd.int .u8))) (w0 := w15) nb rfl (.tmp 135) (.tmp 137) 73 63 (.slice none 0 0) 24 rfl Try.underlying73 infoRows rfl Nat.one_pos (Nat.succ_pos 23) (.slice none 0 0) ([] : List (List (List Int))) rs [.slice An rs.length cn] (fun k => ¬ P2 k) (fun k => ¬ P2 k ∧ some k ≠ (Value.slice none 0 0).ownBlock) rfl rfl ?aP ?aK ?aF ?aO ?aB ?aS ?aL ?_; (case aP => exact HM.out); (case aK => exact fun k hk => hk); (case aF => exact fun k hk he => by have := HP15.out k he; omega); (case aO => exact HC15.out); (case aB => exact Below.refl _ _); (case aS => exact HN15.out); (case aL => exact HLL.out); intro v16 w16 hR hBB hg hat; obtain ⟨A16, c16, rfl⟩ := Kd.R_slice hR; have HC16 := Aside0.mk hR; have HBB := Aside0.mk hBB; have HG := Aside0.mk hg; clear hR hat hBB hg)))
                  have hkk : Kept w15 w16 (fun k => some k = (Value.slice none 0 0).ownBlock) := Kept.of_grown HG.out (Kept.refl _ _) (fun k hk => .inl hk.symm)
                  have HL16 := Aside0.mk (HL15.out.kept hkk (fun k hk he => HC15.out.1 k he.symm hk))
                  have HV16 := Aside0.mk (Kd.R_mono (Kd.R_kept HXR.out hkk (fun k hk he => hk.2 he)) (ok' := fun k => ¬ P2 k) (fun k hk => hk.1))
                  have HS16 := Aside0.mk ((HBB.out.block _ HW.out).trans HS15.out)
                  have HB16 := Aside0.mk (HB15.out.trans (HBB.out.mono (Nat.le_of_lt HW.out)))
                  have HN16 := Aside0.mk (Nat.le_trans HN15.out HBB.out.size)
                  have HP16 : Aside0 (∀ k, P2 k → k < w16.heap.size) := ⟨fun k hk => Nat.lt_of_lt_of_le (HP15.out k hk) HBB.out.size⟩
                  clear hkk
                  go_roundw
                  case rel => exact ⟨i + 1, 0, P2, y', nr', rs, rs, fr', ([] : List (List (List Int))) ++ [rs], by have := HI.out; omega, by omega, rfl, by go_num, HL16, HP16, HV16, ⟨by have h := HC16.out; first | exact h | (rw [List.length_append] at h; exact h)⟩, HFN, ⟨by have := HCL.out; rw [List.length_append]; show _ + 1 ≤ _; first | omega | simp; done | (simp; omega)⟩, ⟨fun h => by have := HNR.out; have := HNR2.out; omega⟩, HS16, HB16, HN16⟩
                  case measure => simp [intOf]; omega
                · have HLE := Aside0.mk hl
                  have HMX := Aside0.mk hm
                  clear hl hm
                  have HM := Aside0.mk (Kd.M_row (Kd.R_apart' HV15.out (Kd.R_typed HC15.out) (by decide)))
                  have HXR := Aside0.mk (Kd.R_apart' HV15.out (Kd.R_typed HC15.out) (by decide))
                  have HLL : Aside0 ((cans.length + 1) * 24 ≤ 140737488355328) := ⟨by have := HCL.out; have := HI.out; omega⟩
                  have HFN : Aside0 (Fine 103 y' nr' rs0 rs fr' (cans ++ [rs])) := ⟨fine_off HF.out HLE.out HMX.out⟩
                  go_wp2_with (first | (go_at_call 35; refine (lg_num _ _).mono ?_; rintro e' w' ⟨rfl, rfl⟩) | (at_builtin; (refine Kd.R_append (Kd.slice 30 (Kd.slice 5 (Kd.int .u8))) (w0 := w15) nb rfl (.tmp 135) (.tmp 137) 73 63 (.slice none 0 0) 24 rfl Try.underlying73 infoRows rfl Nat.one_pos (Nat.succ_pos 23) (.slice Ac cans.length cc) cans rs [.slice An rs.length cn] (fun k => ¬ P2 k) (fun k => ¬ P2 k ∧ some k ≠ (Value.slice Ac cans.length cc).ownBlock) rfl rfl ?aP ?aK ?aF ?aO ?aB ?aS ?aL ?_; (case aP => exact HM.out); (case aK => exact fun k hk => hk); (case aF => exact fun k hk he => by have := HP15.out k he; omega); (case aO => exact HC15.out); (case aB => exact Below.refl _ _); (case aS => exact HN15.out); (case aL => exact HLL.out); intro v16 w16 hR hBB hg hat; obtain ⟨A16, c16, rfl⟩ := Kd.R_slice hR; have HC16 := Aside0.mk hR; have HBB := Aside0.mk hBB; have HG := Aside0.mk hg; clear hR hat hBB hg)))
                  have hkk : Kept w15 w16 (fun k => some k = (Value.slice Ac cans.length cc).ownBlock) := Kept.of_grown HG.out (Kept.refl _ _) (fun k hk => .inl hk.symm)
                  have HL16 := Aside0.mk (HL15.out.kept hkk (fun k hk he => HC15.out.1 k he.symm hk))
                  have HV16 := Aside0.mk (Kd.R_mono (Kd.R_kept HXR.out hkk (fun k hk he => hk.2 he)) (ok' := fun k => ¬ P2 k) (fun k hk => hk.1))
                  have HS16 := Aside0.mk ((HBB.out.block _ HW.out).trans HS15.out)
                  have HB16 := Aside0.mk (HB15.out.trans (HBB.out.mono (Nat.le_of_lt HW.out)))
                  have HN16 := Aside0.mk (Nat.le_trans HN15.out HBB.out.size)
                  have HP16 : Aside0 (∀ k, P2 k → k < w16.heap.size) := ⟨fun k hk => Nat.lt_of_lt_of_le (HP15.out k hk) HBB.out.size⟩
                  clear hkk
                  go_roundw
                  case rel => exact ⟨i + 1, 103, P2, y', nr', rs0, rs, fr', cans ++ [rs], by have := HI.out; omega, by omega, rfl, by go_num, HL16, HP16, HV16, ⟨by have h := HC16.out; first | exact h | (rw [List.length_append] at h; exact h)⟩, HFN, ⟨by have := HCL.out; rw [List.length_append]; show _ + 1 ≤ _; first | omega | done | (simp; omega)⟩, ⟨fun h => absurd h (by decide)⟩, HS16, HB16, HN16⟩
                  case measure => simp [intOf]; omega
              · by_cases q6 : r8 = 6
                · subst q6
                  clear HR8 q4 q5
                  go_wp2_with fail
                  refine (lg_SyncG 12800 size_12800 g _ nb P d y nr rs0 rs fr HL6.out HN6.out HG.out (by have := HNR.out; have := HI.out; omega)).mono ?_
                  rintro e' w15 ⟨cd, y', nr', fr', rfl, hlg, hk, hb, hcase⟩
                  clear ha2
                  obtain ⟨P2, hP2⟩ : ∃ Q : Nat → Prop, Q = fun k => (P k ∨ w6.heap.size ≤ k) ∧ k < w15.heap.size := ⟨_, rfl⟩
                  have HL15 := Aside0.mk hlg.bound
                  rw [← hP2] at HL15
                  have HV15 := Aside0.mk (Kd.R_mono (Kd.R_kept (Kd.R_mono (Kd.R_bound HV6.out) (ok' := fun k => ¬ P k ∧ k < w6.heap.size) (fun k hk => ⟨hk.1, hk.2.2.1⟩)) hk (fun k hk => hk.1)) (ok' := fun k => ¬ P2 k) (fun k hk h2 => by rw [hP2] at h2; exact h2.1.elim hk.1 (fun h => by have := hk.2; omega)))
                  have HC15 := Aside0.mk (Kd.R_mono (Kd.R_kept (Kd.R_mono (Kd.R_bound HC6.out) (ok' := fun k => ¬ P k ∧ k < w6.heap.size) (fun k hk => ⟨hk.1, hk.2.2.1⟩)) hk (fun k hk => hk.1)) (ok' := fun k => ¬ P2 k) (fun k hk h2 => by rw [hP2] at h2; exact h2.1.elim hk.1 (fun h => by have := hk.2; omega)))
                  have HS15 := Aside0.mk ((hb.block _ HW.out).trans HS6.out)
                  have HB15 := Aside0.mk (HB6.out.trans (hb.mono (Nat.le_of_lt HW.out)))
                  have HN15 := Aside0.mk (Nat.le_trans HN6.out hb.size)
                  have HP15 : Aside0 (∀ k, P2 k → k < w15.heap.size) := ⟨fun k hk => by rw [hP2] at hk; exact hk.2⟩
                  clear hlg hk hb hP2
                  rcases hcase with ⟨rfl, hG, htr, hnr⟩ | ⟨rfl, hl, _, hm⟩
                  · have HGD := Aside0.mk hG
                    have HNR2 := Aside0.mk hnr
                    clear hG htr hnr HC15
                    have HC15 : Aside0 (Kd.R (Kd.slice 30 (Kd.slice 5 (Kd.int .u8))) 63 w15 nb (fun k => ¬ P2 k) (.slice none 0 0) []) := ⟨Kd.R_nil _ _ _ _ _⟩
                    have HM := Aside0.mk (Kd.M_row (Kd.R_apart' HV15.out (Kd.R_typed HC15.out) (by decide)))
                    have HXR := Aside0.mk (Kd.R_apart' HV15.out (Kd.R_typed HC15.out) (by decide))
                    have HLL : Aside0 ((([] : List (List (List Int))).length + 1) * 24 ≤ 140737488355328) := ⟨by have := HCL.out; have := HI.out; simp; try omega⟩
                    have HFN : Aside0 (Fine 0 y' nr' rs rs fr' (([] : List (List (List Int))) ++ [rs])) := ⟨fine_synced HGD.out⟩
                    go_wp2_with (first | (go_at_call 35; refine (lg_num _ _).mono ?_; rintro e' w' ⟨rfl, rfl⟩) | (at_builtin; (refine Kd.R_append (Kd.slice 30 (Kd.slice 5 (Kd.int .u8))) (w0 := w15) nb rfl (.tmp 135) (.tmp 137) 73 63 (.slice none 0 0) 24 rfl Try.underlying73 infoRows rfl Nat.one_pos (Nat.succ_pos 23) (.slice none 0 0) ([] : List (List (List Int))) rs [.slice An rs.length cn] (fun k => ¬ P2 k) (fun k => ¬ P2 k ∧ some k ≠ (Value.slice none 0 0).ownBlock) rfl rfl ?aP ?aK ?aF ?aO ?aB ?aS ?aL ?_; (case aP => exact HM.out); (case aK => exact fun k hk => hk); (case aF => exact fun k hk he => by have := HP15.out k he; omega); (case aO => exact HC15.out); (case aB => exact Below.refl _ _); (case aS => exact HN15.out); (case aL => exact HLL.out); intro v16 w16 hR hBB hg hat; obtain ⟨A16, c16, rfl⟩ := Kd.R_slice hR; have HC16 := Aside0.mk hR; have HBB := Aside0.mk hBB; have HG := Aside0.mk hg; clear hR hat hBB hg)))
                    have hkk : Kept w15 w16 (fun k => some k = (Value.slice none 0 0).ownBlock) := Kept.of_grown HG.out (Kept.refl _ _) (fun k hk => .inl hk.symm)
                    have HL16 := Aside0.mk (HL15.out.kept hkk (fun k hk he => HC15.out.1 k he.symm hk))
                    have HV16 := Aside0.mk (Kd.R_mono (Kd.R_kept HXR.out hkk (fun k hk he => hk.2 he)) (ok' := fun k => ¬ P2 k) (fun k hk => hk.1))
                    have HS16 := Aside0.mk ((HBB.out.block _ HW.out).trans HS15.out)
                    have HB16 := Aside0.mk (HB15.out.trans (HBB.out.mono (Nat.le_of_lt HW.out)))
                    have HN16 := Aside0.mk (Nat.le_trans HN15.out HBB.out.size)
                    have HP16 : Aside0 (∀ k, P2 k → k < w16.heap.size) := ⟨fun k hk => Nat.lt_of_lt_of_le (HP15.out k hk) HBB.out.size⟩
                    clear hkk
                    go_roundw
                    case rel => exact ⟨i + 1, 0, P2, y', nr', rs, rs, fr', ([] : List (List (List Int))) ++ [rs], by have := HI.out; omega, by omega, rfl, by go_num, HL16, HP16, HV16, ⟨by have h := HC16.out; first | exact h | (rw [List.length_append] at h; exact h)⟩, HFN, ⟨by have := HCL.out; rw [List.length_append]; show _ + 1 ≤ _; first | omega | simp; done | (simp; omega)⟩, ⟨fun h => by have := HNR.out; have := HNR2.out; omega⟩, HS16, HB16, HN16⟩
                    case measure => simp [intOf]; omega
                  · have HLE := Aside0.mk hl
                    have HMX := Aside0.mk hm
                    clear hl hm
                    have HM := Aside0.mk (Kd.M_row (Kd.R_apart' HV15.out (Kd.R_typed HC15.out) (by decide)))
                    have HXR := Aside0.mk (Kd.R_apart' HV15.out (Kd.R_typed HC15.out) (by decide))
                    have HLL : Aside0 ((cans.length + 1) * 24 ≤ 140737488355328) := ⟨by have := HCL.out; have := HI.out; omega⟩
                    have HFN : Aside0 (Fine 103 y' nr' rs0 rs fr' (cans ++ [rs])) := ⟨fine_off HF.out HLE.out HMX.out⟩
                    go_wp2_with (first | (go_at_call 35; refine (lg_num _ _).mono ?_; rintro e' w' ⟨rfl, rfl⟩) | (at_builtin; (refine Kd.R_append (Kd.slice 30 (Kd.slice 5 (Kd.int .u8))) (w0 := w15) nb rfl (.tmp 135) (.tmp 137) 73 63 (.slice none 0 0) 24 rfl Try.underlying73 infoRows rfl Nat.one_pos (Nat.succ_pos 23) (.slice Ac cans.length cc) cans rs [.slice An rs.length cn] (fun k => ¬ P2 k) (fun k => ¬ P2 k ∧ some k ≠ (Value.slice Ac cans.length cc).ownBlock) rfl rfl ?aP ?aK ?aF ?aO ?aB ?aS ?aL ?_; (case aP => exact HM.out); (case aK => exact fun k hk => hk); (case aF => exact fun k hk he => by have := HP15.out k he; omega); (case aO => exact HC15.out); (case aB => exact Below.refl _ _); (case aS => exact HN15.out); (case aL => exact HLL.out); intro v16 w16 hR hBB hg hat; obtain ⟨A16, c16, rfl⟩ := Kd.R_slice hR; have HC16 := Aside0.mk hR; have HBB := Aside0.mk hBB; have HG := Aside0.mk hg; clear hR hat hBB hg)))
                    have hkk : Kept w15 w16 (fun k => some k = (Value.slice Ac cans.length cc).ownBlock) := Kept.of_grown HG.out (Kept.refl _ _) (fun k hk => .inl hk.symm)
                    have HL16 := Aside0.mk (HL15.out.kept hkk (fun k hk he => HC15.out.1 k he.symm hk))
                    have HV16 := Aside0.mk (Kd.R_mono (Kd.R_kept HXR.out hkk (fun k hk he => hk.2 he)) (ok' := fun k => ¬ P2 k) (fun k hk => hk.1))
                    have HS16 := Aside0.mk ((HBB.out.block _ HW.out).trans HS15.out)
                    have HB16 := Aside0.mk (HB15.out.trans (HBB.out.mono (Nat.le_of_lt HW.out)))
                    have HN16 := Aside0.mk (Nat.le_trans HN15.out HBB.out.size)
                    have HP16 : Aside0 (∀ k, P2 k → k < w16.heap.size) := ⟨fun k hk => Nat.lt_of_lt_of_le (HP15.out k hk) HBB.out.size⟩
                    clear hkk
                    go_roundw
                    case rel => exact ⟨i + 1, 103, P2, y', nr', rs0, rs, fr', cans ++ [rs], by have := HI.out; omega, by omega, rfl, by go_num, HL16, HP16, HV16, ⟨by have h := HC16.out; first | exact h | (rw [List.length_append] at h; exact h)⟩, HFN, ⟨by have := HCL.out; rw [List.length_append]; show _ + 1 ≤ _; first | omega | done | (simp; omega)⟩, ⟨fun h => absurd h (by decide)⟩, HS16, HB16, HN16⟩
                    case measure => simp [intOf]; omega
                · have t4 : ((r8 : Int) == 4) = false := by simp; omega
                  have t4' : (r8 == 4) = false := by simpa using q4
                  have t5 : ((r8 : Int) == 5) = false := by simp; omega
                  have t5' : (r8 == 5) = false := by simpa using q5
                  have t6 : ((r8 : Int) == 6) = false := by simp; omega
                  have t6' : (r8 == 6) = false := by simpa using q6
                  clear q4 q5 q6
                  have HCB : Aside0 (∀ W, Below w6.heap.size w6 W → W.cell? ⟨wr.heap.size, 2, none⟩ = some (.slice AR R.length cR)) := ⟨fun W hW => (blk_cell (blk_below HA6.out hW) 2).trans rfl⟩
                  clear ha2
                  go_upto_region 22 with (fail)
                  have HQ0 : Aside0 (Below w6.heap.size w6 w6.drew) := ⟨below_drew (Below.refl _ _)⟩
                  refine start_ (n := 8) (S := fun w' => w'.cell? ⟨wr.heap.size, 2, none⟩ = some (.slice AR R.length cR)) (ds := []) #[false, false, false, false, false, false, false, false] (by kernel_rfl) rfl rfl (HCB.out _ HQ0.out) (fun hHeld => ?_)
                  refine pure_ (i := 0) (N := some 90) (v := ?_) (a' := ?_) #[true, false, false, false, false, false, false, false] rfl rfl (by kernel_rfl) (fun _ _ _ h => h) (Or.inl ⟨by rfl, ?_⟩) ?_ ?_
                  rotate_left
                  · intro w'
                    go_simp
                    with_reducible rfl
                  rotate_left
                  · simp only [Act.put, List.setIfInBounds_toArray, List.set_cons_zero, List.set_cons_succ, i64_w, i32_w]
                    rfl
                  refine pure_ (i := 2) (N := some 92) (v := ?_) (a' := ?_) #[true, false, true, false, false, false, false, false] rfl rfl (by kernel_rfl) (fun _ _ _ h => h) (Or.inl ⟨by rfl, ?_⟩) ?_ ?_
                  rotate_left
                  · intro w'
                    go_simp
                    with_reducible rfl
                  rotate_left
                  · simp only [Act.put, List.setIfInBounds_toArray, List.set_cons_zero, List.set_cons_succ, i64_w, i32_w]
                    rfl
                  refine take_ (i := 3) (N := some 93) (v := ?_) (a' := ?_) #[true, false, true, true, false, false, false, false] rfl rfl (by kernel_rfl) (fun _ _ _ h => h) (Or.inl ⟨by rfl, ?_⟩) hHeld ?_ ?_
                  rotate_left
                  · intro w' s0
                    go_simp
                    with_reducible rfl
                  rotate_left
                  · simp only [Act.put, List.setIfInBounds_toArray, List.set_cons_zero, List.set_cons_succ, i64_w, i32_w]
                    rfl
                  refine one_ (i := 1) (N := some 91) #[true, true, true, true, false, false, false, false] rfl rfl (by kernel_rfl) (by decide) (fun K hK => ?_)
                  refine goes_ Try.func39 (by kernel_rfl) rfl #[.slice An rs.length cn] (by rfl) rfl rfl (by simp only [List.map_toArray, List.map_cons, List.map_nil]; rfl) ?_
                  with_reducible refine (lg_copyCells An cn rs _ (Kd.C_below HVV.out HQ0.out) HVC.out (by have := HLL0.out; omega)).mono ?_
                  rintro e w11 ⟨v11, rfl, hS, hb⟩
                  refine ⟨_, rfl, ?_⟩
                  obtain ⟨A11, c11, rfl⟩ := Kd.S_slice hS
                  have HT11 := Aside0.mk (Kd.S_lower hS HQ0.out.size)
                  have HQ11 := Aside0.mk (below_step HQ0.out hb)
                  clear hS hb
                  refine hK.out _ _ (HCB.out _ HQ11.out) (fun hHeld => ?_)
                  clear hK K
                  refine norm_ (a' := ?_) ?_ ?_
                  rotate_left
                  · show Act.put _ (some 91) _ = _
                    simp only [Act.put, List.setIfInBounds_toArray, List.set_cons_zero, List.set_cons_succ, i64_w, i32_w]
                    rfl
                  refine one_ (i := 4) (N := some 94) #[true, true, true, true, true, false, false, false] rfl rfl (by kernel_rfl) (by decide) (fun K hK => ?_)
                  refine goes_ Try.func20 (by kernel_rfl) rfl #[.slice AR R.length cR] (by rfl) rfl rfl (by simp only [List.map_toArray, List.map_cons, List.map_nil]; rfl) ?_
                  with_reducible refine (lg_copyB AR cR R _ (Kd.C_below HRC0.out (below_step HB6.out HQ11.out)) HRCC.out (by have := H80.out; omega)).mono ?_
                  rintro e w12 ⟨v12, rfl, hR, hb⟩
                  refine ⟨_, rfl, ?_⟩
                  obtain ⟨A12, c12, rfl⟩ := Kd.R_slice hR
                  have HT12 := Aside0.mk (Kd.S_elder' HT11.out (Kd.R_base hR) hb)
                  have HR12 := Aside0.mk (Kd.R_lower hR HQ11.out.size)
                  have HQ12 := Aside0.mk (below_step HQ11.out hb)
                  clear hR hb
                  refine hK.out _ _ (HCB.out _ HQ12.out) (fun hHeld => ?_)
                  clear hK K
                  refine norm_ (a' := ?_) ?_ ?_
                  rotate_left
                  · show Act.put _ (some 94) _ = _
                    simp only [Act.put, List.setIfInBounds_toArray, List.set_cons_zero, List.set_cons_succ, i64_w, i32_w]
                    rfl
                  refine one_ (i := 5) (N := some 95) #[true, true, true, true, true, true, false, false] rfl rfl (by kernel_rfl) (by decide) (fun K hK => ?_)
                  refine value_ (w1 := ?_) (v := ?_) (by rfl) rfl ?_ ?_
                  rotate_left 2
                  · go_simp
                    constructor
                    · rfl
                    · rfl
                  refine hK.out _ _ (HCB.out _ (below_alloc HQ12.out _)) (fun hHeld => ?_)
                  clear hK K
                  refine norm_ (a' := ?_) ?_ ?_
                  rotate_left
                  · show Act.put _ (some 95) _ = _
                    simp only [Act.put, List.setIfInBounds_toArray, List.set_cons_zero, List.set_cons_succ, i64_w, i32_w]
                    rfl
                  refine one_ (i := 6) (N := some 96) #[true, true, true, true, true, true, true, false] rfl rfl (by kernel_rfl) (by decide) (fun K hK => ?_)
                  refine Kd.S_append_step (Kd.slice 5 (Kd.int .u8)) (w0 := w6) w6.heap.size (by rfl) (.tmp 91) (.tmp 95) 63 30 (.slice none 0 0) 24 rfl Try.underlying63 info30 rfl (by decide) (by omega) (.slice A11 rs.length c11) rs R [.slice A12 R.length c12] (fun _ => True) (fun k_ => some k_ = (.slice A12 R.length c12 : Value).ownBlock) rfl rfl ?aP (fun k_ hk_ => ((Kd.R_mono (ok' := fun k_ => ((fun _ => True)) k_ ∧ some k_ ≠ (.slice A11 rs.length c11 : Value).ownBlock) (Kd.R_apart' (HR12.out) (Kd.S_typed HT12.out) (by decide)) (fun k_ hk => ⟨trivial, hk.2⟩))).1 k_ hk_.symm) ?aF ?aO ?aB ?aS ?aL ?_
                  (case aP => exact Kd.M_row (Kd.R_mono (Kd.R_tight rfl (Kd.R_mono (ok' := fun k_ => ((fun _ => True)) k_ ∧ some k_ ≠ (.slice A11 rs.length c11 : Value).ownBlock) (Kd.R_apart' (HR12.out) (Kd.S_typed HT12.out) (by decide)) (fun k_ hk => ⟨trivial, hk.2⟩))) (fun _ h_ => h_)))
                  (case aB => exact HQ12.out)
                  (case aF => exact (fun _ _ => trivial))
                  (case aO => exact Kd.S_mono HT12.out (fun k_ hk => ⟨trivial, fun e_ => hk.2 e_⟩))
                  (case aS => exact HQ12.out.size)
                  (case aL => have := HRL.out; omega)
                  intro v13 w13 ho hb hg hat
                  obtain ⟨A13, c13, rfl⟩ := Kd.S_slice ho
                  have HT13 := Aside0.mk (Kd.S_R ho)
                  have HQ13 := Aside0.mk hb
                  clear ho hb hg hat
                  refine hK.out _ _ (HCB.out _ HQ13.out) (fun hHeld => ?_)
                  clear hK K
                  refine norm_ (a' := ?_) ?_ ?_
                  rotate_left
                  · show Act.put _ (some 96) _ = _
                    simp only [Act.put, List.setIfInBounds_toArray, List.set_cons_zero, List.set_cons_succ, i64_w, i32_w]
                    rfl
                  refine pure_ (i := 7) (N := some 12) (v := ?_) (a' := ?_) #[true, true, true, true, true, true, true, true] rfl rfl (by kernel_rfl) (fun _ _ _ h => h) (Or.inl ⟨by rfl, ?_⟩) ?_ ?_
                  rotate_left
                  · intro w'
                    go_simp
                    with_reducible rfl
                  rotate_left
                  · simp only [Act.put, List.setIfInBounds_toArray, List.set_cons_zero, List.set_cons_succ, i64_w, i32_w]
                    rfl
                  refine done_ (by kernel_rfl) ?_
                  have HSZ : Aside0 (w6.heap.size ≤ w6.heap.size) := ⟨Nat.le_refl _⟩
                  have HX13 := Aside0.mk (Kd.R_mono (Kd.R_lower (Kd.R_bound HT13.out) (Nat.le_trans HN6.out HSZ.out)) (ok' := fun k => ¬ P k) (fun k hk hp => by have := HP6.out k hp; have := hk.2.1; have := HSZ.out; omega))
                  have HL13 := Aside0.mk (HL6.out.below HQ13.out)
                  have HV13 := Aside0.mk (Kd.R_below HV6.out HQ13.out)
                  have HC13 := Aside0.mk (Kd.R_below HC6.out HQ13.out)
                  have HS13 := Aside0.mk (blk_below HS6.out HQ13.out)
                  have HA13 := Aside0.mk (blk_below HA6.out HQ13.out)
                  have HB13 := Aside0.mk (below_step HB6.out HQ13.out)
                  have HN13 := Aside0.mk (Nat.le_trans HN6.out HQ13.out.size)
                  have HP13 : Aside0 (∀ k, P k → k < w13.heap.size) := ⟨fun k hk => Nat.lt_of_lt_of_le (HP6.out k hk) HQ13.out.size⟩
                  clear HVV HT11 HT12 HR12 HQ11 HQ12 hHeld HCB HSZ
                  have ha2 := (blk_cell HA13.out 2).trans rfl
                  obtain ⟨q, hq⟩ : ∃ q, q = rs ++ [R] := ⟨_, rfl⟩
                  have hql : layLen q ≤ 20000 := by rw [hq, layLen_snoc]; have := HLL0.out; have := H80.out; omega
                  have HQL := Aside0.mk hql
                  have HX13q : Aside0 (Kd.R (Kd.slice 5 (Kd.int .u8)) 30 w13 nb (fun k => ¬ P k) (.slice A13 q.length c13) q) := ⟨by rw [hq]; exact HX13.out⟩
                  have hqn : rs.length + 1 = q.length := by rw [hq, List.length_append]; rfl
                  have HQE := Aside0.mk hq
                  clear hq hql HX13
                  go_wp2_with fail
                  refine (lg_copyB AR cR R _ (Kd.C_below HRC0.out HB13.out) HRCC.out (by have := H80.out; omega)).mono ?_
                  rintro e' w14 ⟨v, rfl, hR, hb⟩
                  obtain ⟨A14, c14, rfl, hc14, hC14⟩ := Kd.R_reads hR
                  have HD14 := Aside0.mk hC14
                  have HE14 := Aside0.mk hc14
                  have HX14 := Aside0.mk (Kd.R_below HX13q.out hb)
                  have HL14 := Aside0.mk (HL13.out.below hb)
                  have HV14 := Aside0.mk (Kd.R_below HV13.out hb)
                  have HC14 := Aside0.mk (Kd.R_below HC13.out hb)
                  have HS14 := Aside0.mk (blk_below HS13.out hb)
                  have HB14 := Aside0.mk (below_step HB13.out hb)
                  have HN14 := Aside0.mk (Nat.le_trans HN13.out hb.size)
                  have HP14 : Aside0 (∀ k, P k → k < w14.heap.size) := ⟨fun k hk => Nat.lt_of_lt_of_le (HP13.out k hk) hb.size⟩
                  clear hR hb hc14 hC14 ha2
                  go_wp2_with fail
                  clear hqn
                  refine (lg_AppendG 12800 size_12800 g A14 c14 R _ nb P d y nr rs0 rs fr HL14.out HN14.out HG.out HD14.out HE14.out (by have := H80.out; omega)).mono ?_
                  rw [← HQE.out]
                  rintro e' w15 ⟨cd, rs', fr', rfl, hlg, hk, hb, hcase⟩
                  obtain ⟨P2, hP2⟩ : ∃ Q : Nat → Prop, Q = fun k => (P k ∨ w14.heap.size ≤ k) ∧ k < w15.heap.size := ⟨_, rfl⟩
                  have HL15 := Aside0.mk hlg.bound
                  rw [← hP2] at HL15
                  have HV15 := Aside0.mk (Kd.R_mono (Kd.R_kept (Kd.R_mono (Kd.R_bound HV14.out) (ok' := fun k => ¬ P k ∧ k < w14.heap.size) (fun k hk => ⟨hk.1, hk.2.2.1⟩)) hk (fun k hk he => hk.1 (by rw [show k = g from he]; exact HPG.out))) (ok' := fun k => ¬ P2 k) (fun k hk h2 => by rw [hP2] at h2; exact h2.1.elim hk.1 (fun h => by have := hk.2; omega)))
                  have HC15 := Aside0.mk (Kd.R_mono (Kd.R_kept (Kd.R_mono (Kd.R_bound HC14.out) (ok' := fun k => ¬ P k ∧ k < w14.heap.size) (fun k hk => ⟨hk.1, hk.2.2.1⟩)) hk (fun k hk he => hk.1 (by rw [show k = g from he]; exact HPG.out))) (ok' := fun k => ¬ P2 k) (fun k hk h2 => by rw [hP2] at h2; exact h2.1.elim hk.1 (fun h => by have := hk.2; omega)))
                  have HX15 := Aside0.mk (Kd.R_mono (Kd.R_kept (Kd.R_mono (Kd.R_bound HX14.out) (ok' := fun k => ¬ P k ∧ k < w14.heap.size) (fun k hk => ⟨hk.1, hk.2.2.1⟩)) hk (fun k hk he => hk.1 (by rw [show k = g from he]; exact HPG.out))) (ok' := fun k => ¬ P2 k) (fun k hk h2 => by rw [hP2] at h2; exact h2.1.elim hk.1 (fun h => by have := hk.2; omega)))
                  have HS15 := Aside0.mk ((hb.block _ HW.out).trans HS14.out)
                  have HB15 := Aside0.mk (HB14.out.trans (hb.mono (Nat.le_of_lt HW.out)))
                  have HN15 := Aside0.mk (Nat.le_trans HN14.out hb.size)
                  have HP15 : Aside0 (∀ k, P2 k → k < w15.heap.size) := ⟨fun k hk => by rw [hP2] at hk; exact hk.2⟩
                  clear hlg hk hb hP2
                  rcases hcase with ⟨rfl, hq1, hG⟩ | ⟨rfl, hq1, hq2, hlt⟩
                  · rw [hq1] at HL15
                    clear hq1
                    have HGD := Aside0.mk hG
                    clear hG
                    have HM := Aside0.mk (Kd.M_row (Kd.R_apart' HX15.out (Kd.R_typed HC15.out) (by decide)))
                    have HXR := Aside0.mk (Kd.R_apart' HX15.out (Kd.R_typed HC15.out) (by decide))
                    have HLL : Aside0 ((cans.length + 1) * 24 ≤ 140737488355328) := ⟨by have := HCL.out; have := HI.out; omega⟩
                    have HFN : Aside0 (Fine 0 y nr rs0 q fr' (cans ++ [q])) := ⟨fine_next HF.out HGD.out⟩
                    go_wp2_with (first | (go_at_call 35; refine (lg_num _ _).mono ?_; rintro e' w' ⟨rfl, rfl⟩) | (at_builtin; (refine Kd.R_append (Kd.slice 30 (Kd.slice 5 (Kd.int .u8))) (w0 := w15) nb rfl (.tmp 135) (.tmp 137) 73 63 (.slice none 0 0) 24 rfl Try.underlying73 infoRows rfl Nat.one_pos (Nat.succ_pos 23) (.slice Ac cans.length cc) cans q [.slice A13 q.length c13] (fun k => ¬ P2 k) (fun k => ¬ P2 k ∧ some k ≠ (Value.slice Ac cans.length cc).ownBlock) rfl rfl ?aP ?aK ?aF ?aO ?aB ?aS ?aL ?_; (case aP => exact HM.out); (case aK => exact fun k hk => hk); (case aF => exact fun k hk he => by have := HP15.out k he; omega); (case aO => exact HC15.out); (case aB => exact Below.refl _ _); (case aS => exact HN15.out); (case aL => exact HLL.out); intro v16 w16 hR hBB hg hat; obtain ⟨A16, c16, rfl⟩ := Kd.R_slice hR; have HC16 := Aside0.mk hR; have HBB := Aside0.mk hBB; have HG := Aside0.mk hg; clear hR hat hBB hg)))
                    have hkk : Kept w15 w16 (fun k => some k = (Value.slice Ac cans.length cc).ownBlock) := Kept.of_grown HG.out (Kept.refl _ _) (fun k hk => .inl hk.symm)
                    have HL16 := Aside0.mk (HL15.out.kept hkk (fun k hk he => HC15.out.1 k he.symm hk))
                    have HV16 := Aside0.mk (Kd.R_mono (Kd.R_kept HXR.out hkk (fun k hk he => hk.2 he)) (ok' := fun k => ¬ P2 k) (fun k hk => hk.1))
                    have HS16 := Aside0.mk ((HBB.out.block _ HW.out).trans HS15.out)
                    have HB16 := Aside0.mk (HB15.out.trans (HBB.out.mono (Nat.le_of_lt HW.out)))
                    have HN16 := Aside0.mk (Nat.le_trans HN15.out HBB.out.size)
                    have HP16 : Aside0 (∀ k, P2 k → k < w16.heap.size) := ⟨fun k hk => Nat.lt_of_lt_of_le (HP15.out k hk) HBB.out.size⟩
                    clear hkk
                    go_roundw
                    case rel => exact ⟨i + 1, 0, P2, y, nr, rs0, q, fr', cans ++ [q], by have := HI.out; omega, by omega, rfl, by go_num, HL16, HP16, HV16, ⟨by have h := HC16.out; first | exact h | (rw [List.length_append] at h; exact h)⟩, HFN, ⟨by have := HCL.out; rw [List.length_append]; show _ + 1 ≤ _; first | omega | done | (simp; omega)⟩, ⟨fun h => by have := HNR.out; omega⟩, HS16, HB16, HN16⟩
                    case measure => simp [intOf]; omega
                  · rw [hq1, hq2] at HL15
                    clear hq1 hq2
                    have HGG := Aside0.mk hlt
                    clear hlt
                    go_wp2_with (first | (go_at_call 35; refine (lg_num _ _).mono ?_; rintro e' w' ⟨rfl, rfl⟩))
                    obtain ⟨_, hxc, hxC⟩ := Kd.R_reads' HX15.out
                    refine (lg_may A13 c13 q 200 _ hxC hxc (by have := HQL.out; omega) (by decide) HGG.out).mono ?_
                    rintro e' w16 ⟨rfl, nd, hw16⟩
                    have hb : Below w15.heap.size w15 w16 := hw16 ▸ pw_below_drewN (Below.refl _ _) nd
                    have HL16 := Aside0.mk (HL15.out.below hb)
                    have HV16 := Aside0.mk (Kd.R_below HV15.out hb)
                    have HC16 := Aside0.mk (Kd.R_below HC15.out hb)
                    have HS16 := Aside0.mk (blk_below HS15.out hb)
                    have HB16 := Aside0.mk (below_step HB15.out hb)
                    have HN16 := Aside0.mk (Nat.le_trans HN15.out hb.size)
                    have HP16 : Aside0 (∀ k, P2 k → k < w16.heap.size) := ⟨fun k hk => Nat.lt_of_lt_of_le (HP15.out k hk) hb.size⟩
                    clear hb hw16 hxc hxC
                    go_wp2
                    go_roundw
                    case rel => exact ⟨i + 1, 0, P2, y, nr, rs0, rs, fr, cans, by have := HI.out; omega, by omega, rfl, by go_num, HL16, HP16, HV16, HC16, HF, ⟨by have := HCL.out; omega⟩, ⟨fun _ => by have := HNR.out; omega⟩, HS16, HB16, HN16⟩
                    case measure => simp [intOf]; omega
  · go_wp2
    go_ret
    exact ⟨rfl, HB1.out⟩

end Go.Proofs.Ytpkhpfgojhojaaa.PLg

namespace Go.Proofs.Ytpkhpfgojhojaaa.PLg
open Go.RowKit Go.Proofs.YtpkhpfgojhojaaaW.PrintWords Go.Proofs.YtpkhpfgojhojaaaW.PrintLast Go.Proofs.YtpkhpfgojhojaaaW.PrintMore
attribute [local go_sem] max2_int min2_int max_two min_two max_three min_three max_four min_four
set_option linter.unusedVariables false
set_option linter.unusedSimpArgs false
-- IMPORT: Derived.Test.@N@WOwn
-- IMPORT: Derived.Test.@N@OpensLg
-- IMPORT: Derived.Test.@N@DLawcrashes
theorem logCrashes_row (cs : Array Value) (x : Int × List S45 × List S65) (w : World) (h : ok60 x) (hk : (Kd.pair (Kd.int .i64) (Kd.pair (Kd.slice 45 k45) (Kd.slice 65 k65))).K w x cs.toList) :
    Calls Try.prog 8 #[.agg cs] w fun e w' => e = .returned (.bool true) ∧ Below w.heap.size w w' := by
  obtain ⟨a0, l1, l2⟩ := x
  obtain ⟨q1, q2, e, h1, q3, q4, rfl, ⟨A1, c1, rfl, hl1, hC1⟩, ⟨A2, c2, rfl, hl2, hC2⟩⟩ := hk
  have h1' : q1 = [.int .i64 a0] := h1
  subst h1'
  obtain rfl : cs = #[.int .i64 a0, .slice A1 l1.length c1, .slice A2 l2.length c2] := Array.ext' e
  exact gangwaylaw12_LogCrashes.walk a0 A1 A2 c1 c2 l1 l2 w hC1 hl1 hC2 hl2 (fun t ht => h.2.1.2.2 t ht) (fun x hx => by
    have hx := h.2.2.2.2 x hx
    have h2 := hx.2.2.1.2.1
    have h3 := hx.2.2.2.2.1
    exact ⟨by omega, by omega⟩)

end Go.Proofs.Ytpkhpfgojhojaaa.PLg
