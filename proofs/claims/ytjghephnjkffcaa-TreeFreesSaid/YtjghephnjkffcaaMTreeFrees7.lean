/- Parts of one proof, merged by merge.py of this repo: walks over the given program and plain facts, used by the law of the file YtjghephnjkffcaaCTreeFrees. -/
import Derived.Deep.DrawnRows
import Derived.Deep.RegionHeld3
import Derived.Test.YtjghephnjkffcaaMTreeFrees4
import Derived.Test.YtjghephnjkffcaaMTreeFrees5
import Derived.Test.YtjghephnjkffcaaMTreeFrees6
namespace Go.Proofs.Ytjghephnjkffcaa.PCk
open Go.RowKit Go.Proofs.YtjghephnjkffcaaW.PrintWords Go.Proofs.YtjghephnjkffcaaW.PrintLast Go.Proofs.YtjghephnjkffcaaW.PrintMore
attribute [local go_sem] max2_int min2_int max_two min_two max_three min_three max_four min_four   -- for this text's walks alone
set_option linter.unusedVariables false
set_option linter.unusedSimpArgs false

/-! ### tree_May: function 33 -/
-- FUNCTION: gangway/tree.May
-- IMPORT: Derived.Deep.RegionHeld3
-- IMPORT: Derived.Deep.DrawnRows
def nodeB (l : List S45) (x : S45) : Bool := (tree_node.f l x.f0 x.f1 x.f2 x.f3 x.f4 x.f5).getD false
set_option maxHeartbeats 1000000 in
theorem nodeB_f (l : List S45) (x : S45) : tree_node.f l x.f0 x.f1 x.f2 x.f3 x.f4 x.f5 = some (nodeB l x) := by
  unfold nodeB tree_node.f
  simp only [tree_time.f, tree_names.f, tree_target.f, strings_IndexByte.f, Option.bind_some]
  repeat' (first | rfl | (simp only [Option.bind_some]; split) | split)
  all_goals rfl
def nodesB (l : List S45) (n : Nat) : Bool := (List.range n).all fun i => nodeB l (rd_T45 l i)
theorem nodesB_succ (l : List S45) (n : Nat) : nodesB l (n + 1) = (nodesB l n && nodeB l (rd_T45 l n)) := by
  unfold nodesB; rw [List.range_succ, List.all_append]; simp
theorem nodesB_false {l : List S45} {i n : Nat} (hi : i < n) (h : nodeB l (rd_T45 l i) = false) : nodesB l n = false := by
  unfold nodesB
  rw [List.all_eq_false]
  exact ⟨i, List.mem_range.2 hi, by simp [h]⟩
/-- What the last loop finds wrong with a node. -/
def nodeBad (l : List S45) (L : List Int) (R : List Bool) (i : Nat) : Bool :=
  decide (0 < i) && ((rd_T45 l i).f4 != rdOf 0 L i || ((rd_T45 l i).f0 == 2 && (decide (1 < (rd_T45 l i).f4) || (((rd_T45 l i).f4 == 0 && decide (0 < (rd_T45 l i).f2.length)) || ((rd_T45 l i).f4 == 1 && !(rdOf false R i))))))
def lastB (l : List S45) (L : List Int) (R : List Bool) (n : Nat) : Bool := (List.range n).all fun i => !nodeBad l L R i
theorem lastB_succ (l : List S45) (L : List Int) (R : List Bool) (n : Nat) : lastB l L R (n + 1) = (lastB l L R n && !nodeBad l L R n) := by
  unfold lastB; rw [List.range_succ, List.all_append]; simp
theorem lastB_false {l : List S45} {L : List Int} {R : List Bool} {i n : Nat} (hi : i < n) (h : nodeBad l L R i = true) : lastB l L R n = false := by
  unfold lastB
  rw [List.all_eq_false]
  exact ⟨i, List.mem_range.2 hi, by simp [h]⟩
def headB (l : List S45) : Bool := decide (0 < l.length) && decide (l.length ≤ 64) && !(decide (1 < l.length) && (rd_T45 l ((l.length : Int) - 1)).f0 == 0) && (rd_T45 l 0).f0 == 2 && (rd_T45 l 0).f4 == 1
def tree_May.f (k : Nat) (l0_0 : List S45) : Option Bool := if headB l0_0 = true then (if nodesB l0_0 l0_0.length = true then ((tree_links.f k l0_0).bind fun L => (tree_reached.f k l0_0).bind fun R => if L.length = l0_0.length ∧ R.length = l0_0.length then some (lastB l0_0 L R l0_0.length) else none) else some false) else some false
theorem tree_May.mono : ∀ a0 k, LeO (tree_May.f k a0) (tree_May.f (k + 1) a0) := fun a0 k => LeO.ite (LeO.ite (LeO.bind (tree_links.mono _ _) fun _ => LeO.bind (tree_reached.mono _ _) fun _ => LeO.refl _) (LeO.refl _)) (LeO.refl _)
def tree_May.W1 (w : World) (A : Option Addr) (n c : Nat) : World := w.alloc (.cells #[.slice A n c] 24)
theorem tree_May.W1_below (w : World) (A : Option Addr) (n c : Nat) : Below w.heap.size w (tree_May.W1 w A n c) := below_alloc (Below.refl _ _) _
theorem tree_May.W1_cell {w w' : World} {A : Option Addr} {n c : Nat} (h : Below (tree_May.W1 w A n c).heap.size (tree_May.W1 w A n c) w') : w'.cell? ⟨w.heap.size, 0, none⟩ = some (.slice A n c) :=
  (blk_cell ((h.block w.heap.size (by show _ < (w.alloc _).heap.size; simp)).trans (blk_new w _)) 0).trans rfl
set_option maxHeartbeats 8000000 in
set_option maxRecDepth 100000 in
theorem tree_May.calls (k : Nat) (A0_0 : Option Addr) (c0_0 : Nat) (l0_0 : List S45) (r : Bool) (w : World) (hr0_0 : Kd.C k45 w A0_0 l0_0.length l0_0) (hc0_0 : l0_0.length ≤ c0_0) (h : tree_May.f k l0_0 = some r) :
    Calls Try.prog 33 #[.agg #[.slice A0_0 l0_0.length c0_0]] w fun e w' => e = .returned (.bool r) ∧ Below w.heap.size w w' := by
  unfold tree_May.f at h
  have HR := Aside0.mk hr0_0
  have HC := Aside0.mk hc0_0
  have hut := Try.underlying24
  have hun := Try.underlying45
  clear hr0_0 hc0_0
  by_cases c1 : 0 < l0_0.length
  · have n1 : decide ((l0_0.length : Int) < 1) = false := decide_eq_false (by omega)
    have n1b : decide (l0_0.length < 1) = false := decide_eq_false (by omega)
    by_cases c2 : l0_0.length ≤ 64
    · have n2 : decide ((64 : Int) < (l0_0.length : Int)) = false := decide_eq_false (by omega)
      have n2b : decide (64 < l0_0.length) = false := decide_eq_false (by omega)
      obtain ⟨ad, B1, d1, B2, d2, rfl, hx0, hx1, hx2, hx3, hx4, hx5, _, _, _, _⟩ := at_T45 HR.out 0 (by omega) (by omega)
      replace hx0 := ((below_alloc (Below.refl w.heap.size w) (.cells #[.slice (some ad) l0_0.length c0_0] 24)).cell (World.block_lt_of_cell? _ _ hx0)).trans hx0
      replace hx4 := ((below_alloc (Below.refl w.heap.size w) (.cells #[.slice (some ad) l0_0.length c0_0] 24)).cell (World.block_lt_of_cell? _ _ hx4)).trans hx4
      replace hx0 : (w.alloc (.cells #[.slice (some ad) l0_0.length c0_0] 24)).cell? ad = some (.int .i64 (rd_T45 l0_0 0).f0) := by rw [← hx0]; congr 1
      replace hx4 : (w.alloc (.cells #[.slice (some ad) l0_0.length c0_0] 24)).cell? ⟨ad.block, ad.off + 4, none⟩ = some (.int .i64 (rd_T45 l0_0 0).f4) := by rw [← hx4]; congr 1
      have hpos : 0 < l0_0.length := c1
      have hmax : l0_0.length ≤ 9223372036854775807 := by omega
      clear hx1 hx2 hx3 hx5
      have HC1 := Aside0.mk c1
      have HC2 := Aside0.mk c2
      clear c1 c2
      by_cases c3 : 1 < l0_0.length
      · have n3 : decide ((1 : Int) < (l0_0.length : Int)) = true := decide_eq_true (by omega)
        have n3b : decide (1 < l0_0.length) = true := decide_eq_true (by omega)
        obtain ⟨ad3, B3, d3, B4, d4, e3, hz0, hz1, hz2, hz3, hz4, hz5, _, _, _, _⟩ := at_T45 HR.out ((l0_0.length : Int) - 1) (by omega) (by omega)
        cases e3
        replace hz0 := ((below_alloc (Below.refl w.heap.size w) (.cells #[.slice (some ad) l0_0.length c0_0] 24)).cell (World.block_lt_of_cell? _ _ hz0)).trans hz0
        rw [show ((l0_0.length : Int) - 1).toNat = l0_0.length - 1 by omega] at hz0
        have hp3 : 1 ≤ l0_0.length := by omega
        clear hz1 hz2 hz3 hz4 hz5
        have HC3 := Aside0.mk c3
        clear c3
        by_cases c4 : (rd_T45 l0_0 ((l0_0.length : Int) - 1)).f0 = 0
        · have n4 : ((rd_T45 l0_0 ((l0_0.length : Int) - 1)).f0 == 0) = true := by simpa using c4
          have HF : Aside0 (headB l0_0 = false) := ⟨by unfold headB; simp [HC3.out, c4]⟩
          rw [HF.out] at h
          have HH := Aside0.mk (Option.some.inj h)
          clear h
          go_enter Try.func33, Try.ntmps33
          go_wp2
          go_ret
          exact ⟨by rw [← HH.out]; rfl, tree_May.W1_below _ _ _ _⟩
        · have n4 : ((rd_T45 l0_0 ((l0_0.length : Int) - 1)).f0 == 0) = false := by simpa using c4
          have HC4 := Aside0.mk c4
          clear c4
          by_cases c5 : (rd_T45 l0_0 0).f0 = 2
          · have n5 : ((rd_T45 l0_0 0).f0 != 2) = false := by simpa using c5
            by_cases c6 : (rd_T45 l0_0 0).f4 = 1
            · have n6 : ((rd_T45 l0_0 0).f4 != 1) = false := by simpa using c6
              have HEAD : Aside0 (headB l0_0 = true) := ⟨by unfold headB; simp [HC1.out, HC2.out, HC4.out, c5, c6]⟩
              clear c5 c6
              rw [if_pos HEAD.out] at h
              have HH := Aside0.mk h
              clear h
              go_enter Try.func33, Try.ntmps33
              go_wp2
              clear hx0 hx4
              go_loopw [53] (fun v53 w' => ∃ i : Nat, i ≤ l0_0.length ∧ v53 = .int .i64 i ∧ Aside0 (nodesB l0_0 i = true) ∧ Aside0 (Below (tree_May.W1 w (some ad) l0_0.length c0_0).heap.size (tree_May.W1 w (some ad) l0_0.length c0_0) w')) (fun v53 _ => l0_0.length - (intOf v53).toNat)
              case atStart => exact ⟨0, Nat.zero_le _, rfl, ⟨rfl⟩, ⟨Below.refl _ _⟩⟩
              case round =>
                obtain ⟨i, hi, rfl, HE, HB⟩ := hrel
                have hmax := HC2.out
                have HB0 := Aside0.mk (below_step (tree_May.W1_below _ _ _ _) HB.out)
                have hct := tree_May.W1_cell HB.out
                by_cases hlt : i < l0_0.length
                · obtain ⟨ad2, B1, d1, B2, d2, e2, hx0, hx1, hx2, hx3, hx4, hx5, hl1, hi1, hl2, hi2⟩ := at_T45 HR.out (i : Int) (by omega) (by omega)
                  cases e2
                  replace hx0 := (HB0.out.cell (World.block_lt_of_cell? _ _ hx0)).trans hx0
                  replace hx1 := (HB0.out.cell (World.block_lt_of_cell? _ _ hx1)).trans hx1
                  replace hx2 := (HB0.out.cell (World.block_lt_of_cell? _ _ hx2)).trans hx2
                  replace hx3 := (HB0.out.cell (World.block_lt_of_cell? _ _ hx3)).trans hx3
                  replace hx4 := (HB0.out.cell (World.block_lt_of_cell? _ _ hx4)).trans hx4
                  replace hx5 := (HB0.out.cell (World.block_lt_of_cell? _ _ hx5)).trans hx5
                  rw [Int.toNat_natCast] at hx0 hx1 hx2 hx3 hx4 hx5
                  have hct2 := fun o => (World.cell?_alloc_lt wr o _ (World.block_lt_of_cell? _ _ hct)).trans hct
                  have F := fun b e w' (hb : Below wr.heap.size wr w') => tree_node.calls (some ad) c0_0 l0_0 (rd_T45 l0_0 i).f0 B1 d1 (rd_T45 l0_0 i).f1 B2 d2 (rd_T45 l0_0 i).f2 (rd_T45 l0_0 i).f3 (rd_T45 l0_0 i).f4 (rd_T45 l0_0 i).f5 b w' (Kd.C_below HR.out (below_step HB0.out hb)) HC.out (Kd.C_below hi1 (below_step HB0.out hb)) hl1 (Kd.C_below hi2 (below_step HB0.out hb)) hl2 ((nodeB_f l0_0 (rd_T45 l0_0 i)).trans (congrArg some e))
                  have HF := Aside0.mk F
                  clear hi1 hl1 hi2 hl2 F
                  cases hb : nodeB l0_0 (rd_T45 l0_0 i)
                  · have HN := Aside0.mk hb
                    have HG := Aside0.mk (nodesB_false hlt hb)
                    clear hb
                    go_wp2_with (first | (go_at_call 59; refine (HF.out _ HN.out _ (below_alloc (Below.refl _ _) _)).mono ?_; rintro e w1 ⟨rfl, hb⟩; have HB1 := Aside0.mk (below_step (below_alloc HB0.out _) hb); clear hb))
                    go_ret
                    have := HH.out
                    rw [HG.out] at this
                    exact ⟨by rw [← Option.some.inj this]; rfl, HB1.out⟩
                  · have HN := Aside0.mk hb
                    have HG : Aside0 (nodesB l0_0 (i + 1) = true) := ⟨by rw [nodesB_succ, HE.out, hb]; rfl⟩
                    clear hb
                    go_wp2_with (first | (go_at_call 59; refine (HF.out _ HN.out _ (below_alloc (Below.refl _ _) _)).mono ?_; rintro e w1 ⟨rfl, hb⟩; have HB1 := Aside0.mk (below_step (below_alloc HB.out _) hb); clear hb))
                    go_roundw
                    case rel => exact ⟨i + 1, by omega, by go_num, HG, HB1⟩
                    case measure => simp [intOf]; omega
                · obtain rfl : i = l0_0.length := by omega
                  have H1 := HH.out
                  rw [if_pos HE.out] at H1
                  obtain ⟨L, hL, H2⟩ := Option.bind_eq_some_iff.mp H1
                  obtain ⟨R, hR, H3⟩ := Option.bind_eq_some_iff.mp H2
                  clear H1 H2
                  split at H3
                  · rename_i hlen
                    have HLL := Aside0.mk hL
                    have HRR := Aside0.mk hR
                    have HLE := Aside0.mk hlen
                    have HEND := Aside0.mk (Option.some.inj H3)
                    clear hL hR hlen H3 HH
                    go_wp2
                    go_region_held3 (fun w' => w'.cell? ⟨w.heap.size, 0, none⟩ = some (.slice (some ad) l0_0.length c0_0)) (first | assumption | go_keep) (first | (go_at_call 60; refine (tree_links.calls k (some ad) c0_0 l0_0 L _ (Kd.C_below HR.out (by repeat (first | exact HB0.out | apply below_alloc | apply pw_below_drewN | apply below_drew1 | apply below_drew))) HC.out HLL.out).mono ?_; rintro e w1 ⟨v, rfl, hq, hb⟩; obtain ⟨lA, lc, rfl⟩ := Kd.R_slice hq; have HQ1 := Aside0.mk hq; have HBB1 := Aside0.mk (below_step (show Below (tree_May.W1 w (some ad) l0_0.length c0_0).heap.size (tree_May.W1 w (some ad) l0_0.length c0_0) _ from by repeat (first | exact HB.out | apply below_alloc | apply pw_below_drewN | apply below_drew1 | apply below_drew)) hb); have hct1 := tree_May.W1_cell HBB1.out; have HB1 := Aside0.mk (below_step (tree_May.W1_below _ _ _ _) HBB1.out); clear hq hb) | (go_at_call 61; refine (tree_reached.calls k (some ad) c0_0 l0_0 R _ (Kd.C_below HR.out (by repeat (first | exact HB1.out | apply below_alloc | apply pw_below_drewN | apply below_drew1 | apply below_drew))) HC.out HRR.out).mono ?_; rintro e w2 ⟨v, rfl, hq, hb⟩; obtain ⟨rA, rc, rfl⟩ := Kd.R_slice hq; have HQ2 := Aside0.mk hq; have HQ3 := Aside0.mk (Kd.R_below HQ1.out (below_step (Below.refl _ _) hb)); have HBB2 := Aside0.mk (below_step HBB1.out hb); have hct2 := tree_May.W1_cell HBB2.out; have HB2 := Aside0.mk (below_step (tree_May.W1_below _ _ _ _) HBB2.out); clear hq hb))
                    go_wp2
                    try clear hct
                    try clear hct1
                    clear HBB1 HB1 HB HB0 HQ1
                    go_loopw [69] (fun v69 w' => ∃ i : Nat, i ≤ l0_0.length ∧ v69 = .int .i64 i ∧ Aside0 (lastB l0_0 L R i = true) ∧ Aside0 (Below w2.heap.size w2 w')) (fun v69 _ => l0_0.length - (intOf v69).toNat)
                    case atStart => exact ⟨0, Nat.zero_le _, rfl, ⟨rfl⟩, ⟨Below.refl _ _⟩⟩
                    case round =>
                      obtain ⟨i, hi, rfl, HE, HB⟩ := hrel
                      have hmax := HC2.out
                      have HB0 := Aside0.mk (below_step HB2.out HB.out)
                      try clear hct2
                      by_cases hlt : i < l0_0.length
                      · obtain ⟨ad2, B1, d1, B2, d2, e2, hx0, hx1, hx2, hx3, hx4, hx5, hl1, hi1, hl2, hi2⟩ := at_T45 HR.out (i : Int) (by omega) (by omega)
                        cases e2
                        replace hx0 := (HB0.out.cell (World.block_lt_of_cell? _ _ hx0)).trans hx0
                        replace hx1 := (HB0.out.cell (World.block_lt_of_cell? _ _ hx1)).trans hx1
                        replace hx2 := (HB0.out.cell (World.block_lt_of_cell? _ _ hx2)).trans hx2
                        replace hx3 := (HB0.out.cell (World.block_lt_of_cell? _ _ hx3)).trans hx3
                        replace hx4 := (HB0.out.cell (World.block_lt_of_cell? _ _ hx4)).trans hx4
                        replace hx5 := (HB0.out.cell (World.block_lt_of_cell? _ _ hx5)).trans hx5
                        rw [Int.toNat_natCast] at hx0 hx1 hx2 hx3 hx4 hx5
                        have HL := Aside0.mk (Kd.R_below HQ3.out HB.out)
                        have HRb := Aside0.mk (Kd.R_below HQ2.out HB.out)
                        obtain ⟨lg, lcap, el, _, _, _, _⟩ := Kd.R_form HL.out (by rw [HLE.out.1]; omega)
                        cases el
                        obtain ⟨rg, rcap, er, _, _, _, _⟩ := Kd.R_form HRb.out (by rw [HLE.out.2]; omega)
                        cases er
                        have hLc := (Kd.R_cell 0 HL.out (i : Int) (by omega) (by rw [HLE.out.1]; omega)).1
                        have hRc := (Kd.R_cell false HRb.out (i : Int) (by omega) (by rw [HLE.out.2]; omega)).1
                        rw [Int.toNat_natCast] at hLc hRc
                        have hll : (L.length : Int) = (l0_0.length : Int) := by rw [HLE.out.1]
                        have hrl : (R.length : Int) = (l0_0.length : Int) := by rw [HLE.out.2]
                        have hLc2 := fun o => (World.cell?_alloc_lt wr o _ (World.block_lt_of_cell? _ _ hLc)).trans hLc
                        have hRc2 := fun o => (World.cell?_alloc_lt wr o _ (World.block_lt_of_cell? _ _ hRc)).trans hRc
                        by_cases b1 : 0 < i
                        · have m1 : decide ((0 : Int) < (i : Int)) = true := decide_eq_true (by omega)
                          have m1b : decide (0 < i) = true := decide_eq_true (by omega)
                          by_cases b2 : (rd_T45 l0_0 i).f4 = rdOf 0 L i
                          · have m2 : ((rd_T45 l0_0 i).f4 != rdOf 0 L i) = false := by simpa using b2
                            have B2 := Aside0.mk b2
                            clear b2
                            by_cases b3 : (rd_T45 l0_0 i).f0 = 2
                            · have m3 : ((rd_T45 l0_0 i).f0 == 2) = true := by simpa using b3
                              have B3 := Aside0.mk b3
                              clear b3
                              by_cases b4 : 1 < (rd_T45 l0_0 i).f4
                              · have m4 : decide (1 < (rd_T45 l0_0 i).f4) = true := decide_eq_true b4
                                have HG : Aside0 (nodeBad l0_0 L R i = true) := ⟨by unfold nodeBad; simp [b1, B3.out, b4]⟩
                                go_wp2
                                go_quiet (fail)
                                go_wp2
                                go_ret
                                exact ⟨by rw [← HEND.out, lastB_false hlt HG.out]; rfl, by repeat (first | exact HB0.out | apply below_alloc | apply pw_below_drewN | apply below_drew1)⟩
                              · have m4 : decide (1 < (rd_T45 l0_0 i).f4) = false := decide_eq_false b4
                                by_cases b5 : (rd_T45 l0_0 i).f4 = 0
                                · have m5 : ((rd_T45 l0_0 i).f4 == 0) = true := by simpa using b5
                                  have m5b : ((rd_T45 l0_0 i).f4 == 1) = false := by simp [b5]
                                  have B5 := Aside0.mk b5
                                  clear b5 b4
                                  by_cases b6 : 0 < (rd_T45 l0_0 i).f2.length
                                  · have m6 : decide ((0 : Int) < ((rd_T45 l0_0 i).f2.length : Int)) = true := decide_eq_true (by omega)
                                    have m6b : decide (0 < (rd_T45 l0_0 i).f2.length) = true := decide_eq_true b6
                                    have HG : Aside0 (nodeBad l0_0 L R i = true) := ⟨by unfold nodeBad; simp [b1, B3.out, B5.out, b6]⟩
                                    go_wp2
                                    go_quiet (fail)
                                    go_wp2
                                    go_ret
                                    exact ⟨by rw [← HEND.out, lastB_false hlt HG.out]; rfl, by repeat (first | exact HB0.out | apply below_alloc | apply pw_below_drewN | apply below_drew1)⟩
                                  · have m6 : decide ((0 : Int) < ((rd_T45 l0_0 i).f2.length : Int)) = false := decide_eq_false (by omega)
                                    have m6b : decide (0 < (rd_T45 l0_0 i).f2.length) = false := decide_eq_false b6
                                    have B4 : Aside0 (¬ (1 < (rd_T45 l0_0 i).f4)) := ⟨by rw [B5.out]; omega⟩
                                    have HG : Aside0 (lastB l0_0 L R (i + 1) = true) := ⟨by rw [lastB_succ, HE.out]; unfold nodeBad; simp [B2.out.symm, B3.out, B5.out, b6, B4.out]⟩
                                    go_wp2
                                    go_quiet (fail)
                                    go_wp2
                                    go_roundw
                                    case rel => exact ⟨i + 1, by omega, by go_num, HG, ⟨by repeat (first | exact HB.out | apply below_alloc | apply pw_below_drewN | apply below_drew1)⟩⟩
                                    case measure => simp [intOf]; omega
                                · have m5 : ((rd_T45 l0_0 i).f4 == 0) = false := by simpa using b5
                                  by_cases b7 : (rd_T45 l0_0 i).f4 = 1
                                  · have m7 : ((rd_T45 l0_0 i).f4 == 1) = true := by simpa using b7
                                    have B7 := Aside0.mk b7
                                    clear b7 b5 b4
                                    cases b8 : rdOf false R i
                                    · rw [b8] at hRc hRc2
                                      have HG : Aside0 (nodeBad l0_0 L R i = true) := ⟨by unfold nodeBad; simp [b1, B3.out, B7.out, b8]⟩
                                      go_wp2
                                      go_quiet (fail)
                                      go_wp2
                                      go_ret
                                      exact ⟨by rw [← HEND.out, lastB_false hlt HG.out]; rfl, by repeat (first | exact HB0.out | apply below_alloc | apply pw_below_drewN | apply below_drew1)⟩
                                    · rw [b8] at hRc hRc2
                                      have HG : Aside0 (lastB l0_0 L R (i + 1) = true) := ⟨by rw [lastB_succ, HE.out]; unfold nodeBad; simp [B2.out.symm, B3.out, B7.out, b8]⟩
                                      go_wp2
                                      go_quiet (fail)
                                      go_wp2
                                      go_roundw
                                      case rel => exact ⟨i + 1, by omega, by go_num, HG, ⟨by repeat (first | exact HB.out | apply below_alloc | apply pw_below_drewN | apply below_drew1)⟩⟩
                                      case measure => simp [intOf]; omega
                                  · have m7 : ((rd_T45 l0_0 i).f4 == 1) = false := by simpa using b7
                                    have B4 := Aside0.mk b4
                                    have B5 := Aside0.mk b5
                                    have B7 := Aside0.mk b7
                                    clear b4 b5 b7
                                    have HG : Aside0 (lastB l0_0 L R (i + 1) = true) := ⟨by rw [lastB_succ, HE.out]; unfold nodeBad; simp [B2.out.symm, B3.out, B4.out, B5.out, B7.out]⟩
                                    go_wp2
                                    go_quiet (fail)
                                    go_wp2
                                    go_roundw
                                    case rel => exact ⟨i + 1, by omega, by go_num, HG, ⟨by repeat (first | exact HB.out | apply below_alloc | apply pw_below_drewN | apply below_drew1)⟩⟩
                                    case measure => simp [intOf]; omega
                            · have m3 : ((rd_T45 l0_0 i).f0 == 2) = false := by simpa using b3
                              have B3 := Aside0.mk b3
                              clear b3
                              have HG : Aside0 (lastB l0_0 L R (i + 1) = true) := ⟨by rw [lastB_succ, HE.out]; unfold nodeBad; simp [B2.out.symm, B3.out]⟩
                              go_wp2
                              go_quiet (fail)
                              go_wp2
                              go_roundw
                              case rel => exact ⟨i + 1, by omega, by go_num, HG, ⟨by repeat (first | exact HB.out | apply below_alloc | apply pw_below_drewN | apply below_drew1)⟩⟩
                              case measure => simp [intOf]; omega
                          · have m2 : ((rd_T45 l0_0 i).f4 != rdOf 0 L i) = true := by simpa using b2
                            have HG : Aside0 (nodeBad l0_0 L R i = true) := ⟨by unfold nodeBad; simp [b1, b2]⟩
                            go_wp2
                            go_quiet (fail)
                            go_wp2
                            go_ret
                            exact ⟨by rw [← HEND.out, lastB_false hlt HG.out]; rfl, by repeat (first | exact HB0.out | apply below_alloc | apply pw_below_drewN | apply below_drew1)⟩
                        · have m1 : decide ((0 : Int) < (i : Int)) = false := decide_eq_false (by omega)
                          have m1b : decide (0 < i) = false := decide_eq_false (by omega)
                          have HG : Aside0 (lastB l0_0 L R (i + 1) = true) := ⟨by rw [lastB_succ, HE.out]; unfold nodeBad; simp [b1]⟩
                          go_wp2
                          go_quiet (fail)
                          go_wp2
                          go_roundw
                          case rel => exact ⟨i + 1, by omega, by go_num, HG, ⟨by repeat (first | exact HB.out | apply below_alloc | apply pw_below_drewN | apply below_drew1)⟩⟩
                          case measure => simp [intOf]; omega
                      · obtain rfl : i = l0_0.length := by omega
                        go_wp2
                        go_ret
                        exact ⟨by rw [← HEND.out, HE.out]; rfl, HB0.out⟩
                  · cases H3
            · have n6 : ((rd_T45 l0_0 0).f4 != 1) = true := by simpa using c6
              have HF : Aside0 (headB l0_0 = false) := ⟨by unfold headB; simp [c6]⟩
              rw [HF.out] at h
              have HH := Aside0.mk (Option.some.inj h)
              clear h
              go_enter Try.func33, Try.ntmps33
              go_wp2
              go_ret
              exact ⟨by rw [← HH.out]; rfl, tree_May.W1_below _ _ _ _⟩
          · have n5 : ((rd_T45 l0_0 0).f0 != 2) = true := by simpa using c5
            have HF : Aside0 (headB l0_0 = false) := ⟨by unfold headB; simp [c5]⟩
            rw [HF.out] at h
            have HH := Aside0.mk (Option.some.inj h)
            clear h
            go_enter Try.func33, Try.ntmps33
            go_wp2
            go_ret
            exact ⟨by rw [← HH.out]; rfl, tree_May.W1_below _ _ _ _⟩
      · have n3 : decide ((1 : Int) < (l0_0.length : Int)) = false := decide_eq_false (by omega)
        have n3b : decide (1 < l0_0.length) = false := decide_eq_false (by omega)
        have HC3 := Aside0.mk c3
        clear c3
        by_cases c5 : (rd_T45 l0_0 0).f0 = 2
        · have n5 : ((rd_T45 l0_0 0).f0 != 2) = false := by simpa using c5
          by_cases c6 : (rd_T45 l0_0 0).f4 = 1
          · have n6 : ((rd_T45 l0_0 0).f4 != 1) = false := by simpa using c6
            have HEAD : Aside0 (headB l0_0 = true) := ⟨by unfold headB; simp [HC1.out, HC2.out, HC3.out, c5, c6]⟩
            clear c5 c6
            rw [if_pos HEAD.out] at h
            have HH := Aside0.mk h
            clear h
            go_enter Try.func33, Try.ntmps33
            go_wp2
            clear hx0 hx4
            go_loopw [53] (fun v53 w' => ∃ i : Nat, i ≤ l0_0.length ∧ v53 = .int .i64 i ∧ Aside0 (nodesB l0_0 i = true) ∧ Aside0 (Below (tree_May.W1 w (some ad) l0_0.length c0_0).heap.size (tree_May.W1 w (some ad) l0_0.length c0_0) w')) (fun v53 _ => l0_0.length - (intOf v53).toNat)
            case atStart => exact ⟨0, Nat.zero_le _, rfl, ⟨rfl⟩, ⟨Below.refl _ _⟩⟩
            case round =>
              obtain ⟨i, hi, rfl, HE, HB⟩ := hrel
              have hmax := HC2.out
              have HB0 := Aside0.mk (below_step (tree_May.W1_below _ _ _ _) HB.out)
              have hct := tree_May.W1_cell HB.out
              by_cases hlt : i < l0_0.length
              · obtain ⟨ad2, B1, d1, B2, d2, e2, hx0, hx1, hx2, hx3, hx4, hx5, hl1, hi1, hl2, hi2⟩ := at_T45 HR.out (i : Int) (by omega) (by omega)
                cases e2
                replace hx0 := (HB0.out.cell (World.block_lt_of_cell? _ _ hx0)).trans hx0
                replace hx1 := (HB0.out.cell (World.block_lt_of_cell? _ _ hx1)).trans hx1
                replace hx2 := (HB0.out.cell (World.block_lt_of_cell? _ _ hx2)).trans hx2
                replace hx3 := (HB0.out.cell (World.block_lt_of_cell? _ _ hx3)).trans hx3
                replace hx4 := (HB0.out.cell (World.block_lt_of_cell? _ _ hx4)).trans hx4
                replace hx5 := (HB0.out.cell (World.block_lt_of_cell? _ _ hx5)).trans hx5
                rw [Int.toNat_natCast] at hx0 hx1 hx2 hx3 hx4 hx5
                have hct2 := fun o => (World.cell?_alloc_lt wr o _ (World.block_lt_of_cell? _ _ hct)).trans hct
                have F := fun b e w' (hb : Below wr.heap.size wr w') => tree_node.calls (some ad) c0_0 l0_0 (rd_T45 l0_0 i).f0 B1 d1 (rd_T45 l0_0 i).f1 B2 d2 (rd_T45 l0_0 i).f2 (rd_T45 l0_0 i).f3 (rd_T45 l0_0 i).f4 (rd_T45 l0_0 i).f5 b w' (Kd.C_below HR.out (below_step HB0.out hb)) HC.out (Kd.C_below hi1 (below_step HB0.out hb)) hl1 (Kd.C_below hi2 (below_step HB0.out hb)) hl2 ((nodeB_f l0_0 (rd_T45 l0_0 i)).trans (congrArg some e))
                have HF := Aside0.mk F
                clear hi1 hl1 hi2 hl2 F
                cases hb : nodeB l0_0 (rd_T45 l0_0 i)
                · have HN := Aside0.mk hb
                  have HG := Aside0.mk (nodesB_false hlt hb)
                  clear hb
                  go_wp2_with (first | (go_at_call 59; refine (HF.out _ HN.out _ (below_alloc (Below.refl _ _) _)).mono ?_; rintro e w1 ⟨rfl, hb⟩; have HB1 := Aside0.mk (below_step (below_alloc HB0.out _) hb); clear hb))
                  go_ret
                  have := HH.out
                  rw [HG.out] at this
                  exact ⟨by rw [← Option.some.inj this]; rfl, HB1.out⟩
                · have HN := Aside0.mk hb
                  have HG : Aside0 (nodesB l0_0 (i + 1) = true) := ⟨by rw [nodesB_succ, HE.out, hb]; rfl⟩
                  clear hb
                  go_wp2_with (first | (go_at_call 59; refine (HF.out _ HN.out _ (below_alloc (Below.refl _ _) _)).mono ?_; rintro e w1 ⟨rfl, hb⟩; have HB1 := Aside0.mk (below_step (below_alloc HB.out _) hb); clear hb))
                  go_roundw
                  case rel => exact ⟨i + 1, by omega, by go_num, HG, HB1⟩
                  case measure => simp [intOf]; omega
              · obtain rfl : i = l0_0.length := by omega
                have H1 := HH.out
                rw [if_pos HE.out] at H1
                obtain ⟨L, hL, H2⟩ := Option.bind_eq_some_iff.mp H1
                obtain ⟨R, hR, H3⟩ := Option.bind_eq_some_iff.mp H2
                clear H1 H2
                split at H3
                · rename_i hlen
                  have HLL := Aside0.mk hL
                  have HRR := Aside0.mk hR
                  have HLE := Aside0.mk hlen
                  have HEND := Aside0.mk (Option.some.inj H3)
                  clear hL hR hlen H3 HH
                  go_wp2
                  go_region_held3 (fun w' => w'.cell? ⟨w.heap.size, 0, none⟩ = some (.slice (some ad) l0_0.length c0_0)) (first | assumption | go_keep) (first | (go_at_call 60; refine (tree_links.calls k (some ad) c0_0 l0_0 L _ (Kd.C_below HR.out (by repeat (first | exact HB0.out | apply below_alloc | apply pw_below_drewN | apply below_drew1 | apply below_drew))) HC.out HLL.out).mono ?_; rintro e w1 ⟨v, rfl, hq, hb⟩; obtain ⟨lA, lc, rfl⟩ := Kd.R_slice hq; have HQ1 := Aside0.mk hq; have HBB1 := Aside0.mk (below_step (show Below (tree_May.W1 w (some ad) l0_0.length c0_0).heap.size (tree_May.W1 w (some ad) l0_0.length c0_0) _ from by repeat (first | exact HB.out | apply below_alloc | apply pw_below_drewN | apply below_drew1 | apply below_drew)) hb); have hct1 := tree_May.W1_cell HBB1.out; have HB1 := Aside0.mk (below_step (tree_May.W1_below _ _ _ _) HBB1.out); clear hq hb) | (go_at_call 61; refine (tree_reached.calls k (some ad) c0_0 l0_0 R _ (Kd.C_below HR.out (by repeat (first | exact HB1.out | apply below_alloc | apply pw_below_drewN | apply below_drew1 | apply below_drew))) HC.out HRR.out).mono ?_; rintro e w2 ⟨v, rfl, hq, hb⟩; obtain ⟨rA, rc, rfl⟩ := Kd.R_slice hq; have HQ2 := Aside0.mk hq; have HQ3 := Aside0.mk (Kd.R_below HQ1.out (below_step (Below.refl _ _) hb)); have HBB2 := Aside0.mk (below_step HBB1.out hb); have hct2 := tree_May.W1_cell HBB2.out; have HB2 := Aside0.mk (below_step (tree_May.W1_below _ _ _ _) HBB2.out); clear hq hb))
                  go_wp2
                  try clear hct
                  try clear hct1
                  clear HBB1 HB1 HB HB0 HQ1
                  go_loopw [69] (fun v69 w' => ∃ i : Nat, i ≤ l0_0.length ∧ v69 = .int .i64 i ∧ Aside0 (lastB l0_0 L R i = true) ∧ Aside0 (Below w2.heap.size w2 w')) (fun v69 _ => l0_0.length - (intOf v69).toNat)
                  case atStart => exact ⟨0, Nat.zero_le _, rfl, ⟨rfl⟩, ⟨Below.refl _ _⟩⟩
                  case round =>
                    obtain ⟨i, hi, rfl, HE, HB⟩ := hrel
                    have hmax := HC2.out
                    have HB0 := Aside0.mk (below_step HB2.out HB.out)
                    try clear hct2
                    by_cases hlt : i < l0_0.length
                    · obtain ⟨ad2, B1, d1, B2, d2, e2, hx0, hx1, hx2, hx3, hx4, hx5, hl1, hi1, hl2, hi2⟩ := at_T45 HR.out (i : Int) (by omega) (by omega)
                      cases e2
                      replace hx0 := (HB0.out.cell (World.block_lt_of_cell? _ _ hx0)).trans hx0
                      replace hx1 := (HB0.out.cell (World.block_lt_of_cell? _ _ hx1)).trans hx1
                      replace hx2 := (HB0.out.cell (World.block_lt_of_cell? _ _ hx2)).trans hx2
                      replace hx3 := (HB0.out.cell (World.block_lt_of_cell? _ _ hx3)).trans hx3
                      replace hx4 := (HB0.out.cell (World.block_lt_of_cell? _ _ hx4)).trans hx4
                      replace hx5 := (HB0.out.cell (World.block_lt_of_cell? _ _ hx5)).trans hx5
                      rw [Int.toNat_natCast] at hx0 hx1 hx2 hx3 hx4 hx5
                      have HL := Aside0.mk (Kd.R_below HQ3.out HB.out)
                      have HRb := Aside0.mk (Kd.R_below HQ2.out HB.out)
                      obtain ⟨lg, lcap, el, _, _, _, _⟩ := Kd.R_form HL.out (by rw [HLE.out.1]; omega)
                      cases el
                      obtain ⟨rg, rcap, er, _, _, _, _⟩ := Kd.R_form HRb.out (by rw [HLE.out.2]; omega)
                      cases er
                      have hLc := (Kd.R_cell 0 HL.out (i : Int) (by omega) (by rw [HLE.out.1]; omega)).1
                      have hRc := (Kd.R_cell false HRb.out (i : Int) (by omega) (by rw [HLE.out.2]; omega)).1
                      rw [Int.toNat_natCast] at hLc hRc
                      have hll : (L.length : Int) = (l0_0.length : Int) := by rw [HLE.out.1]
                      have hrl : (R.length : Int) = (l0_0.length : Int) := by rw [HLE.out.2]
                      have hLc2 := fun o => (World.cell?_alloc_lt wr o _ (World.block_lt_of_cell? _ _ hLc)).trans hLc
                      have hRc2 := fun o => (World.cell?_alloc_lt wr o _ (World.block_lt_of_cell? _ _ hRc)).trans hRc
                      by_cases b1 : 0 < i
                      · have m1 : decide ((0 : Int) < (i : Int)) = true := decide_eq_true (by omega)
                        have m1b : decide (0 < i) = true := decide_eq_true (by omega)
                        by_cases b2 : (rd_T45 l0_0 i).f4 = rdOf 0 L i
                        · have m2 : ((rd_T45 l0_0 i).f4 != rdOf 0 L i) = false := by simpa using b2
                          have B2 := Aside0.mk b2
                          clear b2
                          by_cases b3 : (rd_T45 l0_0 i).f0 = 2
                          · have m3 : ((rd_T45 l0_0 i).f0 == 2) = true := by simpa using b3
                            have B3 := Aside0.mk b3
                            clear b3
                            by_cases b4 : 1 < (rd_T45 l0_0 i).f4
                            · have m4 : decide (1 < (rd_T45 l0_0 i).f4) = true := decide_eq_true b4
                              have HG : Aside0 (nodeBad l0_0 L R i = true) := ⟨by unfold nodeBad; simp [b1, B3.out, b4]⟩
                              go_wp2
                              go_quiet (fail)
                              go_wp2
                              go_ret
                              exact ⟨by rw [← HEND.out, lastB_false hlt HG.out]; rfl, by repeat (first | exact HB0.out | apply below_alloc | apply pw_below_drewN | apply below_drew1)⟩
                            · have m4 : decide (1 < (rd_T45 l0_0 i).f4) = false := decide_eq_false b4
                              by_cases b5 : (rd_T45 l0_0 i).f4 = 0
                              · have m5 : ((rd_T45 l0_0 i).f4 == 0) = true := by simpa using b5
                                have m5b : ((rd_T45 l0_0 i).f4 == 1) = false := by simp [b5]
                                have B5 := Aside0.mk b5
                                clear b5 b4
                                by_cases b6 : 0 < (rd_T45 l0_0 i).f2.length
                                · have m6 : decide ((0 : Int) < ((rd_T45 l0_0 i).f2.length : Int)) = true := decide_eq_true (by omega)
                                  have m6b : decide (0 < (rd_T45 l0_0 i).f2.length) = true := decide_eq_true b6
                                  have HG : Aside0 (nodeBad l0_0 L R i = true) := ⟨by unfold nodeBad; simp [b1, B3.out, B5.out, b6]⟩
                                  go_wp2
                                  go_quiet (fail)
                                  go_wp2
                                  go_ret
                                  exact ⟨by rw [← HEND.out, lastB_false hlt HG.out]; rfl, by repeat (first | exact HB0.out | apply below_alloc | apply pw_below_drewN | apply below_drew1)⟩
                                · have m6 : decide ((0 : Int) < ((rd_T45 l0_0 i).f2.length : Int)) = false := decide_eq_false (by omega)
                                  have m6b : decide (0 < (rd_T45 l0_0 i).f2.length) = false := decide_eq_false b6
                                  have B4 : Aside0 (¬ (1 < (rd_T45 l0_0 i).f4)) := ⟨by rw [B5.out]; omega⟩
                                  have HG : Aside0 (lastB l0_0 L R (i + 1) = true) := ⟨by rw [lastB_succ, HE.out]; unfold nodeBad; simp [B2.out.symm, B3.out, B5.out, b6, B4.out]⟩
                                  go_wp2
                                  go_quiet (fail)
                                  go_wp2
                                  go_roundw
                                  case rel => exact ⟨i + 1, by omega, by go_num, HG, ⟨by repeat (first | exact HB.out | apply below_alloc | apply pw_below_drewN | apply below_drew1)⟩⟩
                                  case measure => simp [intOf]; omega
                              · have m5 : ((rd_T45 l0_0 i).f4 == 0) = false := by simpa using b5
                                by_cases b7 : (rd_T45 l0_0 i).f4 = 1
                                · have m7 : ((rd_T45 l0_0 i).f4 == 1) = true := by simpa using b7
                                  have B7 := Aside0.mk b7
                                  clear b7 b5 b4
                                  cases b8 : rdOf false R i
                                  · rw [b8] at hRc hRc2
                                    have HG : Aside0 (nodeBad l0_0 L R i = true) := ⟨by unfold nodeBad; simp [b1, B3.out, B7.out, b8]⟩
                                    go_wp2
                                    go_quiet (fail)
                                    go_wp2
                                    go_ret
                                    exact ⟨by rw [← HEND.out, lastB_false hlt HG.out]; rfl, by repeat (first | exact HB0.out | apply below_alloc | apply pw_below_drewN | apply below_drew1)⟩
                                  · rw [b8] at hRc hRc2
                                    have HG : Aside0 (lastB l0_0 L R (i + 1) = true) := ⟨by rw [lastB_succ, HE.out]; unfold nodeBad; simp [B2.out.symm, B3.out, B7.out, b8]⟩
                                    go_wp2
                                    go_quiet (fail)
                                    go_wp2
                                    go_roundw
                                    case rel => exact ⟨i + 1, by omega, by go_num, HG, ⟨by repeat (first | exact HB.out | apply below_alloc | apply pw_below_drewN | apply below_drew1)⟩⟩
                                    case measure => simp [intOf]; omega
                                · have m7 : ((rd_T45 l0_0 i).f4 == 1) = false := by simpa using b7
                                  have B4 := Aside0.mk b4
                                  have B5 := Aside0.mk b5
                                  have B7 := Aside0.mk b7
                                  clear b4 b5 b7
                                  have HG : Aside0 (lastB l0_0 L R (i + 1) = true) := ⟨by rw [lastB_succ, HE.out]; unfold nodeBad; simp [B2.out.symm, B3.out, B4.out, B5.out, B7.out]⟩
                                  go_wp2
                                  go_quiet (fail)
                                  go_wp2
                                  go_roundw
                                  case rel => exact ⟨i + 1, by omega, by go_num, HG, ⟨by repeat (first | exact HB.out | apply below_alloc | apply pw_below_drewN | apply below_drew1)⟩⟩
                                  case measure => simp [intOf]; omega
                          · have m3 : ((rd_T45 l0_0 i).f0 == 2) = false := by simpa using b3
                            have B3 := Aside0.mk b3
                            clear b3
                            have HG : Aside0 (lastB l0_0 L R (i + 1) = true) := ⟨by rw [lastB_succ, HE.out]; unfold nodeBad; simp [B2.out.symm, B3.out]⟩
                            go_wp2
                            go_quiet (fail)
                            go_wp2
                            go_roundw
                            case rel => exact ⟨i + 1, by omega, by go_num, HG, ⟨by repeat (first | exact HB.out | apply below_alloc | apply pw_below_drewN | apply below_drew1)⟩⟩
                            case measure => simp [intOf]; omega
                        · have m2 : ((rd_T45 l0_0 i).f4 != rdOf 0 L i) = true := by simpa using b2
                          have HG : Aside0 (nodeBad l0_0 L R i = true) := ⟨by unfold nodeBad; simp [b1, b2]⟩
                          go_wp2
                          go_quiet (fail)
                          go_wp2
                          go_ret
                          exact ⟨by rw [← HEND.out, lastB_false hlt HG.out]; rfl, by repeat (first | exact HB0.out | apply below_alloc | apply pw_below_drewN | apply below_drew1)⟩
                      · have m1 : decide ((0 : Int) < (i : Int)) = false := decide_eq_false (by omega)
                        have m1b : decide (0 < i) = false := decide_eq_false (by omega)
                        have HG : Aside0 (lastB l0_0 L R (i + 1) = true) := ⟨by rw [lastB_succ, HE.out]; unfold nodeBad; simp [b1]⟩
                        go_wp2
                        go_quiet (fail)
                        go_wp2
                        go_roundw
                        case rel => exact ⟨i + 1, by omega, by go_num, HG, ⟨by repeat (first | exact HB.out | apply below_alloc | apply pw_below_drewN | apply below_drew1)⟩⟩
                        case measure => simp [intOf]; omega
                    · obtain rfl : i = l0_0.length := by omega
                      go_wp2
                      go_ret
                      exact ⟨by rw [← HEND.out, HE.out]; rfl, HB0.out⟩
                · cases H3
          · have n6 : ((rd_T45 l0_0 0).f4 != 1) = true := by simpa using c6
            have HF : Aside0 (headB l0_0 = false) := ⟨by unfold headB; simp [c6]⟩
            rw [HF.out] at h
            have HH := Aside0.mk (Option.some.inj h)
            clear h
            go_enter Try.func33, Try.ntmps33
            go_wp2
            go_ret
            exact ⟨by rw [← HH.out]; rfl, tree_May.W1_below _ _ _ _⟩
        · have n5 : ((rd_T45 l0_0 0).f0 != 2) = true := by simpa using c5
          have HF : Aside0 (headB l0_0 = false) := ⟨by unfold headB; simp [c5]⟩
          rw [HF.out] at h
          have HH := Aside0.mk (Option.some.inj h)
          clear h
          go_enter Try.func33, Try.ntmps33
          go_wp2
          go_ret
          exact ⟨by rw [← HH.out]; rfl, tree_May.W1_below _ _ _ _⟩
    · have n2 : decide ((64 : Int) < (l0_0.length : Int)) = true := decide_eq_true (by omega)
      have n2b : decide (64 < l0_0.length) = true := decide_eq_true (by omega)
      have HF : Aside0 (headB l0_0 = false) := ⟨by unfold headB; simp [c2]⟩
      rw [HF.out] at h
      have HH := Aside0.mk (Option.some.inj h)
      clear h
      go_enter Try.func33, Try.ntmps33
      go_wp2
      go_ret
      exact ⟨by rw [← HH.out]; rfl, tree_May.W1_below _ _ _ _⟩
  · have n1 : decide ((l0_0.length : Int) < 1) = true := decide_eq_true (by omega)
    have n1b : decide (l0_0.length < 1) = true := decide_eq_true (by omega)
    have HF : Aside0 (headB l0_0 = false) := ⟨by unfold headB; simp [c1]⟩
    rw [HF.out] at h
    have HH := Aside0.mk (Option.some.inj h)
    clear h
    go_enter Try.func33, Try.ntmps33
    go_wp2
    go_ret
    exact ⟨by rw [← HH.out]; rfl, tree_May.W1_below _ _ _ _⟩

end Go.Proofs.Ytjghephnjkffcaa.PCk
