/- Parts of one proof, merged by merge.py of this repo: walks over the given program and plain facts, used by the law of the file YtjghephnjkffcaaCTreeFrees. -/
import Derived.Test.YtjghephnjkffcaaMTreeFrees11
import Derived.Test.YtjghephnjkffcaaMTreeFrees9
import Derived.Test.YtjghephnjkffcaaMTreeFrees4
import Derived.Test.YtjghephnjkffcaaMTreeFrees5
import Derived.Test.YtjghephnjkffcaaMTreeFrees2
import Derived.Deep.RegionHeld3
import Derived.Test.YtjghephnjkffcaaMTreeFrees7
import Derived.Test.YtjghephnjkffcaaMTreeFrees10
namespace Go.Proofs.Ytjghephnjkffcaa.PCk
open Go.RowKit Go.Proofs.YtjghephnjkffcaaW.PrintWords Go.Proofs.YtjghephnjkffcaaW.PrintLast Go.Proofs.YtjghephnjkffcaaW.PrintMore
attribute [local go_sem] max2_int min2_int max_two min_two max_three min_three max_four min_four
set_option linter.unusedVariables false
set_option linter.unusedSimpArgs false
-- FUNCTION: gangway/gangwaylaw13.TreeFrees
-- IMPORT: Derived.Test.@N@WOwn
-- IMPORT: Derived.Deep.RegionHeld3
def wantF (l : List S45) (n : Nat) : Int := if (rd_T45 l (n : Int)).f0 = 0 then 100 else if n = 0 then 63 else if 0 < (rd_T45 l (n : Int)).f4 then 63 else 0
def eqN (k : Nat) (x y : S45) : Option Bool := gangwayref0_EqNode.f k x.f0 x.f1 x.f2 x.f3 x.f4 x.f5 y.f0 y.f1 y.f2 y.f3 y.f4 y.f5
def FreesAt (k : Nat) (l : List S45) (n : Nat) : Prop := ∃ r : List S45, tree_Free.f k l (n : Int) = some (r, wantF l n) ∧ (wantF l n ≠ 0 → gangwayref0_EqTree.f k r l = some true) ∧ r.length ≤ l.length ∧
  (wantF l n = 0 → ∀ j : Nat, j < r.length → (j ≠ n → eqN k (rd_T45 r (j : Int)) (rd_T45 l (j : Int)) = some true) ∧ (j = n → gangwayref0_EqNode.f k (rd_T45 r (j : Int)).f0 (rd_T45 r (j : Int)).f1 (rd_T45 r (j : Int)).f2 (rd_T45 r (j : Int)).f3 (rd_T45 r (j : Int)).f4 (rd_T45 r (j : Int)).f5 0 [] [] ⟨#[]⟩ 0 0 = some true))
theorem two_cells {W : World} {g : Nat} {a b : Value} {t : TypeId} (h : W.heap[g]? = some (.cells #[a, b] t (0, 0))) : W.cell? ⟨g, 0, none⟩ = some a ∧ W.cell? ⟨g, 1, none⟩ = some b := ⟨(blk_cell h 0).trans rfl, (blk_cell h 1).trans rfl⟩
theorem one_cell {W : World} {g : Nat} {a : Value} {t : TypeId} (h : W.heap[g]? = some (.cells #[a] t (0, 0))) : W.cell? ⟨g, 0, none⟩ = some a := (blk_cell h 0).trans rfl
theorem node_cells {W w : World} {ad : Addr} {n : Nat} {l : List S45} (h : Kd.C k45 w (some ad) n l) (hb : Below w.heap.size w W) (i : Nat) (hi : i < n) : ∃ A1 e1 A2 e2, W.cell? (ad.add (i * 6)) = some (.int .i64 (rd_T45 l i).f0) ∧ W.cell? ⟨(ad.add (i * 6)).block, (ad.add (i * 6)).off + 1, none⟩ = some (.slice A1 (rd_T45 l i).f1.length e1) ∧ W.cell? ⟨(ad.add (i * 6)).block, (ad.add (i * 6)).off + 2, none⟩ = some (.slice A2 (rd_T45 l i).f2.length e2) ∧ W.cell? ⟨(ad.add (i * 6)).block, (ad.add (i * 6)).off + 3, none⟩ = some (.string (rd_T45 l i).f3) ∧ W.cell? ⟨(ad.add (i * 6)).block, (ad.add (i * 6)).off + 4, none⟩ = some (.int .i64 (rd_T45 l i).f4) ∧ W.cell? ⟨(ad.add (i * 6)).block, (ad.add (i * 6)).off + 5, none⟩ = some (.int .i64 (rd_T45 l i).f5) ∧ (rd_T45 l i).f1.length ≤ e1 ∧ Kd.C (Kd.int .u8) W A1 (rd_T45 l i).f1.length (rd_T45 l i).f1 ∧ (rd_T45 l i).f2.length ≤ e2 ∧ Kd.C k66 W A2 (rd_T45 l i).f2.length (rd_T45 l i).f2 := by
  obtain ⟨na, A1, e1, A2, e2, ee, hx0, hx1, hx2, hx3, hx4, hx5, hl1, hi1, hl2, hi2⟩ := at_T45 h (i : Int) (by omega) (by omega)
  obtain rfl := Option.some.inj ee
  rw [Int.toNat_natCast] at hx0 hx1 hx2 hx3 hx4 hx5
  exact ⟨A1, e1, A2, e2, (hb.cell (World.block_lt_of_cell? _ _ hx0)).trans hx0, (hb.cell (World.block_lt_of_cell? _ _ hx1)).trans hx1, (hb.cell (World.block_lt_of_cell? _ _ hx2)).trans hx2, (hb.cell (World.block_lt_of_cell? _ _ hx3)).trans hx3, (hb.cell (World.block_lt_of_cell? _ _ hx4)).trans hx4, (hb.cell (World.block_lt_of_cell? _ _ hx5)).trans hx5, hl1, Kd.C_below hi1 hb, hl2, Kd.C_below hi2 hb⟩
set_option maxHeartbeats 8000000 in
set_option maxRecDepth 100000 in
theorem gangwaylaw13_TreeFrees.walk (k : Nat) (A0 : Option Addr) (c0 : Nat) (l0 : List S45) (A1 : Option Addr) (c1 : Nat) (l1 : List S38) (w : World) (hr0 : Kd.C k45 w A0 l0.length l0) (hc0 : l0.length ≤ c0) (hr1 : Kd.C k38 w A1 l1.length l1) (hc1 : l1.length ≤ c1)
    (hv m : Bool) (hH : gangwaylaw13_Heavy.f k l0 l1 = some hv) (hM : hv = false → gangwayref13_May.f k l0 = some m) (hT : hv = false → m = true → 0 < l0.length ∧ gangwaylaw13_wakes.f k = some true ∧ ∀ n : Nat, n < l0.length → FreesAt k l0 n) :
    Calls Try.prog 4 #[.agg #[.slice A0 l0.length c0, .slice A1 l1.length c1]] w fun e w' => e = .returned (.bool true) ∧ Below w.heap.size w w' := by
  have HR0 := Aside0.mk hr0
  have HC0 := Aside0.mk hc0
  have HR1 := Aside0.mk hr1
  have HC1 := Aside0.mk hc1
  have HH := Aside0.mk hH
  have HM := Aside0.mk hM
  have HT := Aside0.mk hT
  have hut := Try.underlying24
  have hus := Try.underlying27
  have hun := Try.underlying45
  have HB := Aside0.mk (below_alloc (Below.refl w.heap.size w) (.cells #[.slice A0 l0.length c0, .slice A1 l1.length c1] 27))
  have HBS := Aside0.mk (blk_new w (.cells #[.slice A0 l0.length c0, .slice A1 l1.length c1] 27))
  clear hr0 hc0 hr1 hc1 hH hM hT
  cases hv with
  | true =>
    clear HT HM
    go_enter Try.func4, Try.ntmps4
    go_wp2_with (first | (go_at_call 8; refine (gangwaylaw13_Heavy.calls k _ c0 l0 A1 c1 l1 _ _ (Kd.C_below HR0.out HB.out) HC0.out (Kd.C_below HR1.out HB.out) HC1.out HH.out).mono ?_; rintro e w1 ⟨rfl, hb⟩; have HBn := Aside0.mk (below_step HB.out hb); have HSn := Aside0.mk (blk_below HBS.out hb); clear HB HBS hb; have HB := HBn; have HBS := HSn; clear HBn HSn; obtain ⟨hs0, hs1⟩ := two_cells HBS.out))
    go_ret
    exact ⟨rfl, HB.out⟩
  | false =>
    have HMY := Aside0.mk (HM.out rfl)
    clear HM
    cases m with
    | false =>
      clear HT
      go_enter Try.func4, Try.ntmps4
      go_wp2_with (first | (go_at_call 8; refine (gangwaylaw13_Heavy.calls k _ c0 l0 A1 c1 l1 _ _ (Kd.C_below HR0.out HB.out) HC0.out (Kd.C_below HR1.out HB.out) HC1.out HH.out).mono ?_; rintro e w1 ⟨rfl, hb⟩; have HBn := Aside0.mk (below_step HB.out hb); have HSn := Aside0.mk (blk_below HBS.out hb); clear HB HBS hb; have HB := HBn; have HBS := HSn; clear HBn HSn; obtain ⟨hs0, hs1⟩ := two_cells HBS.out) | (go_at_call 12; refine (gangwayref13_May.calls k _ c0 l0 _ _ (Kd.C_below HR0.out HB.out) HC0.out HMY.out).mono ?_; rintro e w1 ⟨rfl, hb⟩; have HBn := Aside0.mk (below_step HB.out hb); have HSn := Aside0.mk (blk_below HBS.out hb); clear HB HBS hb; have HB := HBn; have HBS := HSn; clear HBn HSn))
      go_ret
      exact ⟨rfl, HB.out⟩
    | true =>
      obtain ⟨hpos, hwk, hfr⟩ := HT.out rfl rfl
      have HWK := Aside0.mk hwk
      have HFA := Aside0.mk hfr
      have HNUM : Aside0 (∀ x, gangwaylaw13_num.f x = some x) := ⟨fun _ => rfl⟩
      obtain ⟨ad, _, _, _, _, rfl, _⟩ := at_T45 HR0.out 0 (by omega) (by omega)
      clear HT hwk hfr
      go_enter Try.func4, Try.ntmps4
      go_wp2_with (first | (go_at_call 8; refine (gangwaylaw13_Heavy.calls k _ c0 l0 A1 c1 l1 _ _ (Kd.C_below HR0.out HB.out) HC0.out (Kd.C_below HR1.out HB.out) HC1.out HH.out).mono ?_; rintro e w1 ⟨rfl, hb⟩; have HBn := Aside0.mk (below_step HB.out hb); have HSn := Aside0.mk (blk_below HBS.out hb); clear HB HBS hb; have HB := HBn; have HBS := HSn; clear HBn HSn; obtain ⟨hs0, hs1⟩ := two_cells HBS.out) | (go_at_call 12; refine (gangwayref13_May.calls k _ c0 l0 _ _ (Kd.C_below HR0.out HB.out) HC0.out HMY.out).mono ?_; rintro e w1 ⟨rfl, hb⟩; have HBn := Aside0.mk (below_step HB.out hb); have HSn := Aside0.mk (blk_below HBS.out hb); clear HB HBS hb; have HB := HBn; have HBS := HSn; clear HBn HSn))
      clear hs0 hs1
      go_loopw [3] (fun v3 w' => ∃ n : Nat, n ≤ l0.length ∧ v3 = .int .i64 n ∧ Aside0 (w'.heap[w.heap.size]? = some (.cells #[.slice (some ad) l0.length c0, .slice A1 l1.length c1] 27 (0, 0))) ∧ Aside0 (Below w.heap.size w w')) (fun v3 _ => l0.length - (intOf v3).toNat)
      case atStart => exact ⟨0, Nat.zero_le _, rfl, HBS, HB⟩
      case round =>
        clear HBS HB
        obtain ⟨n, hn, rfl, HBS, HB⟩ := hrel
        obtain ⟨hs0, hs1⟩ := two_cells HBS.out
        have hmax := HR0.out.2.1
        by_cases hlt : n < l0.length
        · obtain ⟨r, hf1, hf2, hf3, hf4⟩ := HFA.out n hlt
          have HFR := Aside0.mk hf1
          have HEQ0 := Aside0.mk hf2
          have HLE := Aside0.mk hf3
          have HND := Aside0.mk hf4
          clear hf1 hf2 hf3 hf4
          go_upto_region 7 with (first | (go_at_call 17; refine (tree_Free.calls k _ c0 l0 (n : Int) r _ _ (Kd.C_below HR0.out HB.out) HC0.out HFR.out).mono ?_; rintro e w5 ⟨v0, rfl, hS, hb⟩; obtain ⟨At, ct, rfl, hct, hCt⟩ := Kd.S_reads hS; have HB5 := Aside0.mk (below_step HB.out hb); have HS5 := Aside0.mk (blk_below HBS.out hb); have HCT := Aside0.mk hCt; have HCC := Aside0.mk hct; clear hb hS hCt hct))
          have HS6 := Aside0.mk (blk_alloc HS5.out (.cells #[.slice At r.length ct] 24))
          have HT6 := Aside0.mk (blk_new w5 (.cells #[.slice At r.length ct] 24))
          have HY6 := Aside0.mk (below_alloc (Below.refl w5.heap.size w5) (.cells #[.slice At r.length ct] 24))
          obtain ⟨hs0, hs1⟩ := two_cells HS6.out
          obtain ⟨X1, y1, X2, y2, hx0, hx1, hx2, hx3, hx4, hx5, _, _, _, _⟩ := node_cells HR0.out (below_step HB5.out HY6.out) n hlt
          go_upto_region 8 with (fail)
          have HS7 := Aside0.mk (blk_alloc HS6.out (.cells #[.int .i64 (rd_T45 l0 n).f0, .slice X1 (rd_T45 l0 n).f1.length y1, .slice X2 (rd_T45 l0 n).f2.length y2, .string (rd_T45 l0 n).f3, .int .i64 (rd_T45 l0 n).f4, .int .i64 (rd_T45 l0 n).f5] 45))
          have HT7 := Aside0.mk (blk_alloc HT6.out (.cells #[.int .i64 (rd_T45 l0 n).f0, .slice X1 (rd_T45 l0 n).f1.length y1, .slice X2 (rd_T45 l0 n).f2.length y2, .string (rd_T45 l0 n).f3, .int .i64 (rd_T45 l0 n).f4, .int .i64 (rd_T45 l0 n).f5] 45))
          have HY7 := Aside0.mk (below_alloc HY6.out (.cells #[.int .i64 (rd_T45 l0 n).f0, .slice X1 (rd_T45 l0 n).f1.length y1, .slice X2 (rd_T45 l0 n).f2.length y2, .string (rd_T45 l0 n).f3, .int .i64 (rd_T45 l0 n).f4, .int .i64 (rd_T45 l0 n).f5] 45))
          clear hs0 hs1 hx0 hx1 hx2 hx3 hx4 hx5 HS6 HT6 HY6 HBS HB HS5
          obtain ⟨hs0, hs1⟩ := two_cells HS7.out
          have ht0 := one_cell HT7.out
          have hnil : ((((0 : Nat) : Int) == 0) = true) := rfl
          have hlr : r.length ≤ l0.length := HLE.out
          by_cases k0 : (rd_T45 l0 n).f0 = 0
          · have m0 : ((rd_T45 l0 n).f0 == 0) = true := by simpa using k0
            have HW : Aside0 (wantF l0 n = 100) := ⟨by unfold wantF; rw [if_pos k0]⟩
            have HEQ := Aside0.mk (HEQ0.out (by rw [HW.out]; decide))
            clear k0 HND
            rw [HW.out]
            go_wp2_with (first | (go_at_call 10; refine (gangwaylaw13_num.calls _ _ _ (HNUM.out _)).mono ?_; rintro e w6 ⟨rfl, ⟨nd, rfl⟩⟩) | (go_at_call 13; refine (gangwayref0_EqTree.calls k At ct r _ c0 l0 true _ (Kd.C_below HCT.out (by repeat (first | exact HY7.out | apply below_alloc | apply pw_below_drewN | apply below_drew1 | apply below_drew))) HCC.out (Kd.C_below HR0.out (below_step HB5.out (by repeat (first | exact HY7.out | apply below_alloc | apply pw_below_drewN | apply below_drew1 | apply below_drew)))) HC0.out HEQ.out).mono ?_; rintro e w8 ⟨rfl, hb⟩; have HYn := Aside0.mk (below_step (by repeat (first | exact HY7.out | apply below_alloc | apply pw_below_drewN | apply below_drew1 | apply below_drew)) hb); have HSn := Aside0.mk (blk_below (by repeat (first | exact HS7.out | apply blk_drewN | apply blk_alloc | apply blk_drew)) hb); have HTn := Aside0.mk (blk_below (by repeat (first | exact HT7.out | apply blk_drewN | apply blk_alloc | apply blk_drew)) hb); clear HY7 HS7 HT7 hb; have HY7 := HYn; have HS7 := HSn; have HT7 := HTn; clear HYn HSn HTn; obtain ⟨hs0, hs1⟩ := two_cells HS7.out; have ht0 := one_cell HT7.out))
            go_loopw [8] (fun v8 w' => ∃ j : Nat, v8 = .int .i64 j ∧ Aside0 (w'.heap[w.heap.size]? = some (.cells #[.slice (some ad) l0.length c0, .slice A1 l1.length c1] 27 (0, 0))) ∧ Aside0 (Below w5.heap.size w5 w')) (fun v8 _ => 0)
            case atStart => exact ⟨0, rfl, HS7, HY7⟩
            case round =>
              clear HS7 HY7 HT7 hs0 hs1 ht0
              obtain ⟨j, rfl, HS7, HY7⟩ := hrel
              go_wp2
              go_roundw
              case rel => exact ⟨n + 1, by omega, by go_num, HS7, ⟨below_step HB5.out HY7.out⟩⟩
              case measure => simp [intOf]; omega
          · have m0 : ((rd_T45 l0 n).f0 == 0) = false := by simpa using k0
            by_cases k1 : n = 0
            · have m1 : ((n : Int) == 0) = true := beq_iff_eq.2 (by omega)
              have HW : Aside0 (wantF l0 n = 63) := ⟨by unfold wantF; rw [if_neg k0, if_pos k1]⟩
              have HEQ := Aside0.mk (HEQ0.out (by rw [HW.out]; decide))
              clear k0 k1 HND
              rw [HW.out]
              go_wp2_with (first | (go_at_call 10; refine (gangwaylaw13_num.calls _ _ _ (HNUM.out _)).mono ?_; rintro e w6 ⟨rfl, ⟨nd, rfl⟩⟩) | (go_at_call 13; refine (gangwayref0_EqTree.calls k At ct r _ c0 l0 true _ (Kd.C_below HCT.out (by repeat (first | exact HY7.out | apply below_alloc | apply pw_below_drewN | apply below_drew1 | apply below_drew))) HCC.out (Kd.C_below HR0.out (below_step HB5.out (by repeat (first | exact HY7.out | apply below_alloc | apply pw_below_drewN | apply below_drew1 | apply below_drew)))) HC0.out HEQ.out).mono ?_; rintro e w8 ⟨rfl, hb⟩; have HYn := Aside0.mk (below_step (by repeat (first | exact HY7.out | apply below_alloc | apply pw_below_drewN | apply below_drew1 | apply below_drew)) hb); have HSn := Aside0.mk (blk_below (by repeat (first | exact HS7.out | apply blk_drewN | apply blk_alloc | apply blk_drew)) hb); have HTn := Aside0.mk (blk_below (by repeat (first | exact HT7.out | apply blk_drewN | apply blk_alloc | apply blk_drew)) hb); clear HY7 HS7 HT7 hb; have HY7 := HYn; have HS7 := HSn; have HT7 := HTn; clear HYn HSn HTn; obtain ⟨hs0, hs1⟩ := two_cells HS7.out; have ht0 := one_cell HT7.out))
              go_loopw [8] (fun v8 w' => ∃ j : Nat, v8 = .int .i64 j ∧ Aside0 (w'.heap[w.heap.size]? = some (.cells #[.slice (some ad) l0.length c0, .slice A1 l1.length c1] 27 (0, 0))) ∧ Aside0 (Below w5.heap.size w5 w')) (fun v8 _ => 0)
              case atStart => exact ⟨0, rfl, HS7, HY7⟩
              case round =>
                clear HS7 HY7 HT7 hs0 hs1 ht0
                obtain ⟨j, rfl, HS7, HY7⟩ := hrel
                go_wp2
                go_roundw
                case rel => exact ⟨n + 1, by omega, by go_num, HS7, ⟨below_step HB5.out HY7.out⟩⟩
                case measure => simp [intOf]; omega
            · have m1 : ((n : Int) == 0) = false := beq_eq_false_iff_ne.2 (by omega)
              by_cases k2 : 0 < (rd_T45 l0 n).f4
              · have m2 : decide (0 < (rd_T45 l0 n).f4) = true := decide_eq_true k2
                have HW : Aside0 (wantF l0 n = 63) := ⟨by unfold wantF; rw [if_neg k0, if_neg k1, if_pos k2]⟩
                have HEQ := Aside0.mk (HEQ0.out (by rw [HW.out]; decide))
                clear k0 k1 k2 HND
                rw [HW.out]
                go_wp2_with (first | (go_at_call 10; refine (gangwaylaw13_num.calls _ _ _ (HNUM.out _)).mono ?_; rintro e w6 ⟨rfl, ⟨nd, rfl⟩⟩) | (go_at_call 13; refine (gangwayref0_EqTree.calls k At ct r _ c0 l0 true _ (Kd.C_below HCT.out (by repeat (first | exact HY7.out | apply below_alloc | apply pw_below_drewN | apply below_drew1 | apply below_drew))) HCC.out (Kd.C_below HR0.out (below_step HB5.out (by repeat (first | exact HY7.out | apply below_alloc | apply pw_below_drewN | apply below_drew1 | apply below_drew)))) HC0.out HEQ.out).mono ?_; rintro e w8 ⟨rfl, hb⟩; have HYn := Aside0.mk (below_step (by repeat (first | exact HY7.out | apply below_alloc | apply pw_below_drewN | apply below_drew1 | apply below_drew)) hb); have HSn := Aside0.mk (blk_below (by repeat (first | exact HS7.out | apply blk_drewN | apply blk_alloc | apply blk_drew)) hb); have HTn := Aside0.mk (blk_below (by repeat (first | exact HT7.out | apply blk_drewN | apply blk_alloc | apply blk_drew)) hb); clear HY7 HS7 HT7 hb; have HY7 := HYn; have HS7 := HSn; have HT7 := HTn; clear HYn HSn HTn; obtain ⟨hs0, hs1⟩ := two_cells HS7.out; have ht0 := one_cell HT7.out))
                go_loopw [8] (fun v8 w' => ∃ j : Nat, v8 = .int .i64 j ∧ Aside0 (w'.heap[w.heap.size]? = some (.cells #[.slice (some ad) l0.length c0, .slice A1 l1.length c1] 27 (0, 0))) ∧ Aside0 (Below w5.heap.size w5 w')) (fun v8 _ => 0)
                case atStart => exact ⟨0, rfl, HS7, HY7⟩
                case round =>
                  clear HS7 HY7 HT7 hs0 hs1 ht0
                  obtain ⟨j, rfl, HS7, HY7⟩ := hrel
                  go_wp2
                  go_roundw
                  case rel => exact ⟨n + 1, by omega, by go_num, HS7, ⟨below_step HB5.out HY7.out⟩⟩
                  case measure => simp [intOf]; omega
              · have m2 : decide (0 < (rd_T45 l0 n).f4) = false := decide_eq_false k2
                have HW : Aside0 (wantF l0 n = 0) := ⟨by unfold wantF; rw [if_neg k0, if_neg k1, if_neg k2]⟩
                have HNE := Aside0.mk (HND.out HW.out)
                clear k0 k1 k2 HND
                rw [HW.out]
                go_wp2_with (first | (go_at_call 10; refine (gangwaylaw13_num.calls _ _ _ (HNUM.out _)).mono ?_; rintro e w6 ⟨rfl, ⟨nd, rfl⟩⟩))
                go_loopw [8] (fun v8 w' => ∃ j : Nat, j ≤ r.length ∧ v8 = .int .i64 j ∧ Aside0 (w'.heap[w.heap.size]? = some (.cells #[.slice (some ad) l0.length c0, .slice A1 l1.length c1] 27 (0, 0))) ∧ Aside0 (w'.heap[w5.heap.size]? = some (.cells #[.slice At r.length ct] 24 (0, 0))) ∧ Aside0 (Below w5.heap.size w5 w')) (fun v8 _ => r.length - (intOf v8).toNat)
                case atStart => exact ⟨0, Nat.zero_le _, rfl, ⟨(by repeat (first | exact HS7.out | apply blk_drewN | apply blk_alloc | apply blk_drew))⟩, ⟨(by repeat (first | exact HT7.out | apply blk_drewN | apply blk_alloc | apply blk_drew))⟩, ⟨(by repeat (first | exact HY7.out | apply below_alloc | apply pw_below_drewN | apply below_drew1 | apply below_drew))⟩⟩
                case round =>
                  clear HS7 HY7 HT7 hs0 hs1 ht0
                  obtain ⟨j, hj, rfl, HS7, HT7, HY7⟩ := hrel
                  obtain ⟨hs0, hs1⟩ := two_cells HS7.out
                  have ht0 := one_cell HT7.out
                  by_cases hjl : j < r.length
                  · obtain ⟨ra, _, _, _, _, rfl, _⟩ := at_T45 HCT.out (j : Int) (by omega) (by omega)
                    obtain ⟨P1, p1, P2, p2, rx0, rx1, rx2, rx3, rx4, rx5, hp1, hp2, hp3, hp4⟩ := node_cells HCT.out HY7.out j hjl
                    have HP := Aside0.mk (show _ ∧ _ from ⟨hp2, hp4⟩)
                    have HPL := Aside0.mk (show _ ∧ _ from ⟨hp1, hp3⟩)
                    have hjl2 : j < l0.length := by omega
                    clear hp1 hp2 hp3 hp4
                    by_cases kj : j = n
                    · have m3 : ((j : Int) != (n : Int)) = false := bne_eq_false_iff_eq.2 (by omega)
                      have m5 : (j != n) = false := bne_eq_false_iff_eq.2 kj
                      have m6 : (j == n) = true := beq_iff_eq.2 kj
                      have m4 : ((j : Int) == (n : Int)) = true := beq_iff_eq.2 (by omega)
                      have HEN := Aside0.mk ((HNE.out j hjl).2 kj)
                      clear kj
                      go_wp2_with fail
                      refine start_ (n := 33) (S := fun w' => w'.cell? ⟨w5.heap.size, 0, none⟩ = some (.slice (some ra) r.length ct) ∧ w'.cell? (ra.add (j * 6)) = some (.int .i64 (rd_T45 r j).f0) ∧ w'.cell? ⟨(ra.add (j * 6)).block, (ra.add (j * 6)).off + 1, none⟩ = some (.slice P1 (rd_T45 r j).f1.length p1) ∧ w'.cell? ⟨(ra.add (j * 6)).block, (ra.add (j * 6)).off + 2, none⟩ = some (.slice P2 (rd_T45 r j).f2.length p2) ∧ w'.cell? ⟨(ra.add (j * 6)).block, (ra.add (j * 6)).off + 3, none⟩ = some (.string (rd_T45 r j).f3) ∧ w'.cell? ⟨(ra.add (j * 6)).block, (ra.add (j * 6)).off + 4, none⟩ = some (.int .i64 (rd_T45 r j).f4) ∧ w'.cell? ⟨(ra.add (j * 6)).block, (ra.add (j * 6)).off + 5, none⟩ = some (.int .i64 (rd_T45 r j).f5)) (ds := []) #[false, false, false, false, false, false, false, false, false, false, false, false, false, false, false, false, false, false, false, false, false, false, false, false, false, false, false, false, false, false, false, false, false] (by kernel_rfl) rfl rfl ⟨ht0, rx0, rx1, rx2, rx3, rx4, rx5⟩ (fun hHeld => ?_)
                      refine pure_ (i := 0) (N := some 84) (v := ?_) (a' := ?_) #[true, false, false, false, false, false, false, false, false, false, false, false, false, false, false, false, false, false, false, false, false, false, false, false, false, false, false, false, false, false, false, false, false] rfl rfl (by kernel_rfl) (fun _ _ _ h => h) (Or.inl ⟨by rfl, ?_⟩) ?_ ?_
                      rotate_left
                      · intro w'
                        go_simp
                        with_reducible rfl
                      rotate_left
                      · simp only [Act.put, List.setIfInBounds_toArray, List.set_cons_zero, List.set_cons_succ, i64_w, i32_w]
                        rfl
                      refine pure_ (i := 1) (N := some 85) (v := ?_) (a' := ?_) #[true, true, false, false, false, false, false, false, false, false, false, false, false, false, false, false, false, false, false, false, false, false, false, false, false, false, false, false, false, false, false, false, false] rfl rfl (by kernel_rfl) (fun _ _ _ h => h) (Or.inl ⟨by rfl, ?_⟩) ?_ ?_
                      rotate_left
                      · intro w'
                        go_simp
                        with_reducible rfl
                      rotate_left
                      · simp only [Act.put, List.setIfInBounds_toArray, List.set_cons_zero, List.set_cons_succ, i64_w, i32_w]
                        rfl
                      refine pure_ (i := 2) (N := some 86) (v := ?_) (a' := ?_) #[true, true, true, false, false, false, false, false, false, false, false, false, false, false, false, false, false, false, false, false, false, false, false, false, false, false, false, false, false, false, false, false, false] rfl rfl (by kernel_rfl) (fun _ _ _ h => h) (Or.inl ⟨by rfl, ?_⟩) ?_ ?_
                      rotate_left
                      · intro w'
                        go_simp
                        with_reducible rfl
                      rotate_left
                      · simp only [Act.put, List.setIfInBounds_toArray, List.set_cons_zero, List.set_cons_succ, i64_w, i32_w]
                        rfl
                      refine pure_ (i := 3) (N := some 87) (v := ?_) (a' := ?_) #[true, true, true, true, false, false, false, false, false, false, false, false, false, false, false, false, false, false, false, false, false, false, false, false, false, false, false, false, false, false, false, false, false] rfl rfl (by kernel_rfl) (fun _ _ _ h => h) (Or.inl ⟨by rfl, ?_⟩) ?_ ?_
                      rotate_left
                      · intro w'
                        go_simp
                        with_reducible rfl
                      rotate_left
                      · simp only [Act.put, List.setIfInBounds_toArray, List.set_cons_zero, List.set_cons_succ, i64_w, i32_w]
                        rfl
                      refine pure_ (i := 4) (N := some 88) (v := undef) (a' := ?_) #[true, true, true, true, true, false, false, false, false, false, false, false, false, false, false, false, false, false, false, false, false, false, false, false, false, false, false, false, false, false, false, false, false] rfl rfl (by kernel_rfl) (fun _ _ _ h => h) (Or.inr ⟨by rfl, rfl⟩) ?_ ?_
                      rotate_left
                      · simp only [Act.put, List.setIfInBounds_toArray, List.set_cons_zero, List.set_cons_succ, i64_w, i32_w]
                        rfl
                      refine pure_ (i := 5) (N := some 89) (v := undef) (a' := ?_) #[true, true, true, true, true, true, false, false, false, false, false, false, false, false, false, false, false, false, false, false, false, false, false, false, false, false, false, false, false, false, false, false, false] rfl rfl (by kernel_rfl) (fun _ _ _ h => h) (Or.inr ⟨by rfl, rfl⟩) ?_ ?_
                      rotate_left
                      · simp only [Act.put, List.setIfInBounds_toArray, List.set_cons_zero, List.set_cons_succ, i64_w, i32_w]
                        rfl
                      refine pure_ (i := 6) (N := some 90) (v := undef) (a' := ?_) #[true, true, true, true, true, true, true, false, false, false, false, false, false, false, false, false, false, false, false, false, false, false, false, false, false, false, false, false, false, false, false, false, false] rfl rfl (by kernel_rfl) (fun _ _ _ h => h) (Or.inr ⟨by rfl, rfl⟩) ?_ ?_
                      rotate_left
                      · simp only [Act.put, List.setIfInBounds_toArray, List.set_cons_zero, List.set_cons_succ, i64_w, i32_w]
                        rfl
                      refine pure_ (i := 7) (N := some 91) (v := undef) (a' := ?_) #[true, true, true, true, true, true, true, true, false, false, false, false, false, false, false, false, false, false, false, false, false, false, false, false, false, false, false, false, false, false, false, false, false] rfl rfl (by kernel_rfl) (fun _ _ _ h => h) (Or.inr ⟨by rfl, rfl⟩) ?_ ?_
                      rotate_left
                      · simp only [Act.put, List.setIfInBounds_toArray, List.set_cons_zero, List.set_cons_succ, i64_w, i32_w]
                        rfl
                      refine pure_ (i := 8) (N := some 92) (v := undef) (a' := ?_) #[true, true, true, true, true, true, true, true, true, false, false, false, false, false, false, false, false, false, false, false, false, false, false, false, false, false, false, false, false, false, false, false, false] rfl rfl (by kernel_rfl) (fun _ _ _ h => h) (Or.inr ⟨by rfl, rfl⟩) ?_ ?_
                      rotate_left
                      · simp only [Act.put, List.setIfInBounds_toArray, List.set_cons_zero, List.set_cons_succ, i64_w, i32_w]
                        rfl
                      refine pure_ (i := 9) (N := some 93) (v := undef) (a' := ?_) #[true, true, true, true, true, true, true, true, true, true, false, false, false, false, false, false, false, false, false, false, false, false, false, false, false, false, false, false, false, false, false, false, false] rfl rfl (by kernel_rfl) (fun _ _ _ h => h) (Or.inr ⟨by rfl, rfl⟩) ?_ ?_
                      rotate_left
                      · simp only [Act.put, List.setIfInBounds_toArray, List.set_cons_zero, List.set_cons_succ, i64_w, i32_w]
                        rfl
                      refine pure_ (i := 10) (N := some 94) (v := undef) (a' := ?_) #[true, true, true, true, true, true, true, true, true, true, true, false, false, false, false, false, false, false, false, false, false, false, false, false, false, false, false, false, false, false, false, false, false] rfl rfl (by kernel_rfl) (fun _ _ _ h => h) (Or.inr ⟨by rfl, rfl⟩) ?_ ?_
                      rotate_left
                      · simp only [Act.put, List.setIfInBounds_toArray, List.set_cons_zero, List.set_cons_succ, i64_w, i32_w]
                        rfl
                      refine pure_ (i := 11) (N := some 95) (v := undef) (a' := ?_) #[true, true, true, true, true, true, true, true, true, true, true, true, false, false, false, false, false, false, false, false, false, false, false, false, false, false, false, false, false, false, false, false, false] rfl rfl (by kernel_rfl) (fun _ _ _ h => h) (Or.inr ⟨by rfl, rfl⟩) ?_ ?_
                      rotate_left
                      · simp only [Act.put, List.setIfInBounds_toArray, List.set_cons_zero, List.set_cons_succ, i64_w, i32_w]
                        rfl
                      refine pure_ (i := 12) (N := some 96) (v := undef) (a' := ?_) #[true, true, true, true, true, true, true, true, true, true, true, true, true, false, false, false, false, false, false, false, false, false, false, false, false, false, false, false, false, false, false, false, false] rfl rfl (by kernel_rfl) (fun _ _ _ h => h) (Or.inr ⟨by rfl, rfl⟩) ?_ ?_
                      rotate_left
                      · simp only [Act.put, List.setIfInBounds_toArray, List.set_cons_zero, List.set_cons_succ, i64_w, i32_w]
                        rfl
                      refine pure_ (i := 13) (N := some 97) (v := undef) (a' := ?_) #[true, true, true, true, true, true, true, true, true, true, true, true, true, true, false, false, false, false, false, false, false, false, false, false, false, false, false, false, false, false, false, false, false] rfl rfl (by kernel_rfl) (fun _ _ _ h => h) (Or.inr ⟨by rfl, rfl⟩) ?_ ?_
                      rotate_left
                      · simp only [Act.put, List.setIfInBounds_toArray, List.set_cons_zero, List.set_cons_succ, i64_w, i32_w]
                        rfl
                      refine pure_ (i := 14) (N := some 98) (v := undef) (a' := ?_) #[true, true, true, true, true, true, true, true, true, true, true, true, true, true, true, false, false, false, false, false, false, false, false, false, false, false, false, false, false, false, false, false, false] rfl rfl (by kernel_rfl) (fun _ _ _ h => h) (Or.inr ⟨by rfl, rfl⟩) ?_ ?_
                      rotate_left
                      · simp only [Act.put, List.setIfInBounds_toArray, List.set_cons_zero, List.set_cons_succ, i64_w, i32_w]
                        rfl
                      refine pure_ (i := 15) (N := some 99) (v := undef) (a' := ?_) #[true, true, true, true, true, true, true, true, true, true, true, true, true, true, true, true, false, false, false, false, false, false, false, false, false, false, false, false, false, false, false, false, false] rfl rfl (by kernel_rfl) (fun _ _ _ h => h) (Or.inr ⟨by rfl, rfl⟩) ?_ ?_
                      rotate_left
                      · simp only [Act.put, List.setIfInBounds_toArray, List.set_cons_zero, List.set_cons_succ, i64_w, i32_w]
                        rfl
                      refine pure_ (i := 16) (N := some 100) (v := undef) (a' := ?_) #[true, true, true, true, true, true, true, true, true, true, true, true, true, true, true, true, true, false, false, false, false, false, false, false, false, false, false, false, false, false, false, false, false] rfl rfl (by kernel_rfl) (fun _ _ _ h => h) (Or.inr ⟨by rfl, rfl⟩) ?_ ?_
                      rotate_left
                      · simp only [Act.put, List.setIfInBounds_toArray, List.set_cons_zero, List.set_cons_succ, i64_w, i32_w]
                        rfl
                      refine pure_ (i := 17) (N := some 101) (v := ?_) (a' := ?_) #[true, true, true, true, true, true, true, true, true, true, true, true, true, true, true, true, true, true, false, false, false, false, false, false, false, false, false, false, false, false, false, false, false] rfl rfl (by kernel_rfl) (fun _ _ _ h => h) (Or.inl ⟨by rfl, ?_⟩) ?_ ?_
                      rotate_left
                      · intro w'
                        go_simp
                        with_reducible rfl
                      rotate_left
                      · simp only [Act.put, List.setIfInBounds_toArray, List.set_cons_zero, List.set_cons_succ, i64_w, i32_w]
                        rfl
                      refine pure_ (i := 18) (N := some 102) (v := ?_) (a' := ?_) #[true, true, true, true, true, true, true, true, true, true, true, true, true, true, true, true, true, true, true, false, false, false, false, false, false, false, false, false, false, false, false, false, false] rfl rfl (by kernel_rfl) (fun _ _ _ h => h) (Or.inl ⟨by rfl, ?_⟩) ?_ ?_
                      rotate_left
                      · intro w'
                        go_simp
                        with_reducible rfl
                      rotate_left
                      · simp only [Act.put, List.setIfInBounds_toArray, List.set_cons_zero, List.set_cons_succ, i64_w, i32_w]
                        rfl
                      refine pure_ (i := 19) (N := some 103) (v := ?_) (a' := ?_) #[true, true, true, true, true, true, true, true, true, true, true, true, true, true, true, true, true, true, true, true, false, false, false, false, false, false, false, false, false, false, false, false, false] rfl rfl (by kernel_rfl) (fun _ _ _ h => h) (Or.inl ⟨by rfl, ?_⟩) ?_ ?_
                      rotate_left
                      · intro w'
                        go_simp
                        with_reducible rfl
                      rotate_left
                      · simp only [Act.put, List.setIfInBounds_toArray, List.set_cons_zero, List.set_cons_succ, i64_w, i32_w]
                        rfl
                      refine pure_ (i := 20) (N := some 104) (v := ?_) (a' := ?_) #[true, true, true, true, true, true, true, true, true, true, true, true, true, true, true, true, true, true, true, true, true, false, false, false, false, false, false, false, false, false, false, false, false] rfl rfl (by kernel_rfl) (fun _ _ _ h => h) (Or.inl ⟨by rfl, ?_⟩) ?_ ?_
                      rotate_left
                      · intro w'
                        go_simp
                        with_reducible rfl
                      rotate_left
                      · simp only [Act.put, List.setIfInBounds_toArray, List.set_cons_zero, List.set_cons_succ, i64_w, i32_w]
                        rfl
                      refine pure_ (i := 21) (N := some 105) (v := ?_) (a' := ?_) #[true, true, true, true, true, true, true, true, true, true, true, true, true, true, true, true, true, true, true, true, true, true, false, false, false, false, false, false, false, false, false, false, false] rfl rfl (by kernel_rfl) (fun _ _ _ h => h) (Or.inl ⟨by rfl, ?_⟩) ?_ ?_
                      rotate_left
                      · intro w'
                        go_simp
                        with_reducible rfl
                      rotate_left
                      · simp only [Act.put, List.setIfInBounds_toArray, List.set_cons_zero, List.set_cons_succ, i64_w, i32_w]
                        rfl
                      refine pure_ (i := 22) (N := some 106) (v := ?_) (a' := ?_) #[true, true, true, true, true, true, true, true, true, true, true, true, true, true, true, true, true, true, true, true, true, true, true, false, false, false, false, false, false, false, false, false, false] rfl rfl (by kernel_rfl) (fun _ _ _ h => h) (Or.inl ⟨by rfl, ?_⟩) ?_ ?_
                      rotate_left
                      · intro w'
                        go_simp
                        with_reducible rfl
                      rotate_left
                      · simp only [Act.put, List.setIfInBounds_toArray, List.set_cons_zero, List.set_cons_succ, i64_w, i32_w]
                        rfl
                      refine pure_ (i := 23) (N := some 107) (v := ?_) (a' := ?_) #[true, true, true, true, true, true, true, true, true, true, true, true, true, true, true, true, true, true, true, true, true, true, true, true, false, false, false, false, false, false, false, false, false] rfl rfl (by kernel_rfl) (fun _ _ _ h => h) (Or.inl ⟨by rfl, ?_⟩) ?_ ?_
                      rotate_left
                      · intro w'
                        go_simp
                        with_reducible rfl
                      rotate_left
                      · simp only [Act.put, List.setIfInBounds_toArray, List.set_cons_zero, List.set_cons_succ, i64_w, i32_w]
                        rfl
                      refine pure_ (i := 25) (N := some 109) (v := ?_) (a' := ?_) #[true, true, true, true, true, true, true, true, true, true, true, true, true, true, true, true, true, true, true, true, true, true, true, true, false, true, false, false, false, false, false, false, false] rfl rfl (by kernel_rfl) (fun _ _ _ h => h) (Or.inl ⟨by rfl, ?_⟩) ?_ ?_
                      rotate_left
                      · intro w'
                        go_simp
                        with_reducible rfl
                      rotate_left
                      · simp only [Act.put, List.setIfInBounds_toArray, List.set_cons_zero, List.set_cons_succ, i64_w, i32_w]
                        rfl
                      refine pure_ (i := 28) (N := some 112) (v := ?_) (a' := ?_) #[true, true, true, true, true, true, true, true, true, true, true, true, true, true, true, true, true, true, true, true, true, true, true, true, false, true, false, false, true, false, false, false, false] rfl rfl (by kernel_rfl) (fun _ _ _ h => h) (Or.inl ⟨by rfl, ?_⟩) ?_ ?_
                      rotate_left
                      · intro w'
                        go_simp
                        with_reducible rfl
                      rotate_left
                      · simp only [Act.put, List.setIfInBounds_toArray, List.set_cons_zero, List.set_cons_succ, i64_w, i32_w]
                        rfl
                      refine take_ (i := 24) (N := some 108) (v := ?_) (a' := ?_) #[true, true, true, true, true, true, true, true, true, true, true, true, true, true, true, true, true, true, true, true, true, true, true, true, true, true, false, false, true, false, false, false, false] rfl rfl (by kernel_rfl) (fun _ _ _ h => h) (Or.inl ⟨by rfl, ?_⟩) hHeld ?_ ?_
                      rotate_left
                      · rintro w' ⟨s0, s1, s2, s3, s4, s5, s6⟩
                        go_simp
                        with_reducible rfl
                      rotate_left
                      · simp only [Act.put, List.setIfInBounds_toArray, List.set_cons_zero, List.set_cons_succ, i64_w, i32_w]
                        rfl
                      refine pure_ (i := 26) (N := some 110) (v := ?_) (a' := ?_) #[true, true, true, true, true, true, true, true, true, true, true, true, true, true, true, true, true, true, true, true, true, true, true, true, true, true, true, false, true, false, false, false, false] rfl rfl (by kernel_rfl) (fun _ _ _ h => h) (Or.inl ⟨by rfl, ?_⟩) ?_ ?_
                      rotate_left
                      · intro w'
                        go_simp
                        with_reducible rfl
                      rotate_left
                      · simp only [Act.put, List.setIfInBounds_toArray, List.set_cons_zero, List.set_cons_succ, i64_w, i32_w]
                        rfl
                      refine take_ (i := 27) (N := some 111) (v := ?_) (a' := ?_) #[true, true, true, true, true, true, true, true, true, true, true, true, true, true, true, true, true, true, true, true, true, true, true, true, true, true, true, true, true, false, false, false, false] rfl rfl (by kernel_rfl) (fun _ _ _ h => h) (Or.inl ⟨by rfl, ?_⟩) hHeld ?_ ?_
                      rotate_left
                      · rintro w' ⟨s0, s1, s2, s3, s4, s5, s6⟩
                        go_simp
                        with_reducible rfl
                      rotate_left
                      · simp only [Act.put, List.setIfInBounds_toArray, List.set_cons_zero, List.set_cons_succ, i64_w, i32_w]
                        rfl
                      refine one_ (i := 29) (N := some 113) #[true, true, true, true, true, true, true, true, true, true, true, true, true, true, true, true, true, true, true, true, true, true, true, true, true, true, true, true, true, true, false, false, false] rfl rfl (by kernel_rfl) (by decide) (fun K hK => ?_)
                      refine goes_ Try.func18 (by kernel_rfl) rfl #[.agg #[.int .i64 (rd_T45 r (j : Int)).f0, .slice P1 (rd_T45 r (j : Int)).f1.length p1, .slice P2 (rd_T45 r (j : Int)).f2.length p2, .string (rd_T45 r (j : Int)).f3, .int .i64 (rd_T45 r (j : Int)).f4, .int .i64 (rd_T45 r (j : Int)).f5], .agg #[.int .i64 0, .slice none ([] : List Int).length 0, .slice none ([] : List S66).length 0, .string ⟨#[]⟩, .int .i64 0, .int .i64 0]] (by rfl) rfl rfl (by simp only [List.map_toArray, List.map_cons, List.map_nil]; rfl) ?_
                      with_reducible refine (gangwayref0_EqNode.calls k _ P1 p1 _ P2 p2 _ _ _ _ 0 none 0 [] none 0 [] ⟨#[]⟩ 0 0 true _ (Kd.C_below HP.out.1 (by repeat (first | exact Below.refl _ _ | apply below_alloc | apply pw_below_drewN | apply below_drew1 | apply below_drew))) HPL.out.1 (Kd.C_below HP.out.2 (by repeat (first | exact Below.refl _ _ | apply below_alloc | apply pw_below_drewN | apply below_drew1 | apply below_drew))) HPL.out.2 (Kd.C_nil _ _) (Nat.le_refl _) (Kd.C_nil _ _) (Nat.le_refl _) HEN.out).mono ?_
                      rintro e w8 ⟨rfl, hb⟩
                      refine ⟨_, rfl, ?_⟩
                      have ht0n := (hb.cell (World.block_lt_of_cell? _ _ ht0)).trans ht0
                      have rx0n := (hb.cell (World.block_lt_of_cell? _ _ rx0)).trans rx0
                      have rx1n := (hb.cell (World.block_lt_of_cell? _ _ rx1)).trans rx1
                      have rx2n := (hb.cell (World.block_lt_of_cell? _ _ rx2)).trans rx2
                      have rx3n := (hb.cell (World.block_lt_of_cell? _ _ rx3)).trans rx3
                      have rx4n := (hb.cell (World.block_lt_of_cell? _ _ rx4)).trans rx4
                      have rx5n := (hb.cell (World.block_lt_of_cell? _ _ rx5)).trans rx5
                      have HYn := Aside0.mk (below_step (by repeat (first | exact HY7.out | apply below_alloc | apply pw_below_drewN | apply below_drew1 | apply below_drew)) hb)
                      have HSn := Aside0.mk (blk_below (by repeat (first | exact HS7.out | apply blk_drewN | apply blk_alloc | apply blk_drew)) hb)
                      have HTn := Aside0.mk (blk_below (by repeat (first | exact HT7.out | apply blk_drewN | apply blk_alloc | apply blk_drew)) hb)
                      clear hb
                      refine hK.out _ _ ⟨ht0n, rx0n, rx1n, rx2n, rx3n, rx4n, rx5n⟩ (fun hHeld => ?_)
                      clear hK K
                      refine norm_ (a' := ?_) ?_ ?_
                      rotate_left
                      · show Act.put _ (some 113) _ = _
                        simp only [Act.put, List.setIfInBounds_toArray, List.set_cons_zero, List.set_cons_succ, i64_w, i32_w]
                        rfl
                      refine pure_ (i := 30) (N := some 114) (v := ?_) (a' := ?_) #[true, true, true, true, true, true, true, true, true, true, true, true, true, true, true, true, true, true, true, true, true, true, true, true, true, true, true, true, true, true, true, false, false] rfl rfl (by kernel_rfl) (fun _ _ _ h => h) (Or.inl ⟨by rfl, ?_⟩) ?_ ?_
                      rotate_left
                      · intro w'
                        go_simp
                        with_reducible rfl
                      rotate_left
                      · simp only [Act.put, List.setIfInBounds_toArray, List.set_cons_zero, List.set_cons_succ, i64_w, i32_w]
                        rfl
                      refine pure_ (i := 31) (N := some 115) (v := ?_) (a' := ?_) #[true, true, true, true, true, true, true, true, true, true, true, true, true, true, true, true, true, true, true, true, true, true, true, true, true, true, true, true, true, true, true, true, false] rfl rfl (by kernel_rfl) (fun _ _ _ h => h) (Or.inl ⟨by rfl, ?_⟩) ?_ ?_
                      rotate_left
                      · intro w'
                        go_simp
                        with_reducible rfl
                      rotate_left
                      · simp only [Act.put, List.setIfInBounds_toArray, List.set_cons_zero, List.set_cons_succ, i64_w, i32_w]
                        rfl
                      refine pure_ (i := 32) (N := some 116) (v := ?_) (a' := ?_) #[true, true, true, true, true, true, true, true, true, true, true, true, true, true, true, true, true, true, true, true, true, true, true, true, true, true, true, true, true, true, true, true, true] rfl rfl (by kernel_rfl) (fun _ _ _ h => h) (Or.inl ⟨by rfl, ?_⟩) ?_ ?_
                      rotate_left
                      · intro w'
                        go_simp
                        with_reducible rfl
                      rotate_left
                      · simp only [Act.put, List.setIfInBounds_toArray, List.set_cons_zero, List.set_cons_succ, i64_w, i32_w]
                        rfl
                      refine done_ (by kernel_rfl) ?_
                      go_wp2
                      go_roundw
                      case rel => exact ⟨j + 1, by omega, by go_num, HSn, HTn, HYn⟩
                      case measure => simp [intOf]; omega
                    · have m3 : ((j : Int) != (n : Int)) = true := bne_iff_ne.2 (by omega)
                      have m5 : (j != n) = true := bne_iff_ne.2 kj
                      have m6 : (j == n) = false := beq_eq_false_iff_ne.2 kj
                      have m4 : ((j : Int) == (n : Int)) = false := beq_eq_false_iff_ne.2 (by omega)
                      have HEN := Aside0.mk ((HNE.out j hjl).1 kj)
                      unfold eqN at HEN
                      obtain ⟨Q1, q1, Q2, q2, lx0, lx1, lx2, lx3, lx4, lx5, hp1, hp2, hp3, hp4⟩ := node_cells HR0.out (below_step HB5.out HY7.out) j hjl2
                      have HQ := Aside0.mk (show _ ∧ _ from ⟨hp2, hp4⟩)
                      have HQL := Aside0.mk (show _ ∧ _ from ⟨hp1, hp3⟩)
                      clear kj hp1 hp2 hp3 hp4
                      go_wp2_with fail
                      refine start_ (n := 33) (S := fun w' => w'.cell? ⟨w5.heap.size, 0, none⟩ = some (.slice (some ra) r.length ct) ∧ w'.cell? (ra.add (j * 6)) = some (.int .i64 (rd_T45 r j).f0) ∧ w'.cell? ⟨(ra.add (j * 6)).block, (ra.add (j * 6)).off + 1, none⟩ = some (.slice P1 (rd_T45 r j).f1.length p1) ∧ w'.cell? ⟨(ra.add (j * 6)).block, (ra.add (j * 6)).off + 2, none⟩ = some (.slice P2 (rd_T45 r j).f2.length p2) ∧ w'.cell? ⟨(ra.add (j * 6)).block, (ra.add (j * 6)).off + 3, none⟩ = some (.string (rd_T45 r j).f3) ∧ w'.cell? ⟨(ra.add (j * 6)).block, (ra.add (j * 6)).off + 4, none⟩ = some (.int .i64 (rd_T45 r j).f4) ∧ w'.cell? ⟨(ra.add (j * 6)).block, (ra.add (j * 6)).off + 5, none⟩ = some (.int .i64 (rd_T45 r j).f5) ∧ w'.cell? ⟨w.heap.size, 0, none⟩ = some (.slice (some ad) l0.length c0) ∧ w'.cell? (ad.add (j * 6)) = some (.int .i64 (rd_T45 l0 j).f0) ∧ w'.cell? ⟨(ad.add (j * 6)).block, (ad.add (j * 6)).off + 1, none⟩ = some (.slice Q1 (rd_T45 l0 j).f1.length q1) ∧ w'.cell? ⟨(ad.add (j * 6)).block, (ad.add (j * 6)).off + 2, none⟩ = some (.slice Q2 (rd_T45 l0 j).f2.length q2) ∧ w'.cell? ⟨(ad.add (j * 6)).block, (ad.add (j * 6)).off + 3, none⟩ = some (.string (rd_T45 l0 j).f3) ∧ w'.cell? ⟨(ad.add (j * 6)).block, (ad.add (j * 6)).off + 4, none⟩ = some (.int .i64 (rd_T45 l0 j).f4) ∧ w'.cell? ⟨(ad.add (j * 6)).block, (ad.add (j * 6)).off + 5, none⟩ = some (.int .i64 (rd_T45 l0 j).f5)) (ds := []) #[false, false, false, false, false, false, false, false, false, false, false, false, false, false, false, false, false, false, false, false, false, false, false, false, false, false, false, false, false, false, false, false, false] (by kernel_rfl) rfl rfl ⟨ht0, rx0, rx1, rx2, rx3, rx4, rx5, hs0, lx0, lx1, lx2, lx3, lx4, lx5⟩ (fun hHeld => ?_)
                      refine pure_ (i := 0) (N := some 84) (v := ?_) (a' := ?_) #[true, false, false, false, false, false, false, false, false, false, false, false, false, false, false, false, false, false, false, false, false, false, false, false, false, false, false, false, false, false, false, false, false] rfl rfl (by kernel_rfl) (fun _ _ _ h => h) (Or.inl ⟨by rfl, ?_⟩) ?_ ?_
                      rotate_left
                      · intro w'
                        go_simp
                        with_reducible rfl
                      rotate_left
                      · simp only [Act.put, List.setIfInBounds_toArray, List.set_cons_zero, List.set_cons_succ, i64_w, i32_w]
                        rfl
                      refine pure_ (i := 1) (N := some 85) (v := ?_) (a' := ?_) #[true, true, false, false, false, false, false, false, false, false, false, false, false, false, false, false, false, false, false, false, false, false, false, false, false, false, false, false, false, false, false, false, false] rfl rfl (by kernel_rfl) (fun _ _ _ h => h) (Or.inl ⟨by rfl, ?_⟩) ?_ ?_
                      rotate_left
                      · intro w'
                        go_simp
                        with_reducible rfl
                      rotate_left
                      · simp only [Act.put, List.setIfInBounds_toArray, List.set_cons_zero, List.set_cons_succ, i64_w, i32_w]
                        rfl
                      refine pure_ (i := 2) (N := some 86) (v := ?_) (a' := ?_) #[true, true, true, false, false, false, false, false, false, false, false, false, false, false, false, false, false, false, false, false, false, false, false, false, false, false, false, false, false, false, false, false, false] rfl rfl (by kernel_rfl) (fun _ _ _ h => h) (Or.inl ⟨by rfl, ?_⟩) ?_ ?_
                      rotate_left
                      · intro w'
                        go_simp
                        with_reducible rfl
                      rotate_left
                      · simp only [Act.put, List.setIfInBounds_toArray, List.set_cons_zero, List.set_cons_succ, i64_w, i32_w]
                        rfl
                      refine pure_ (i := 3) (N := some 87) (v := ?_) (a' := ?_) #[true, true, true, true, false, false, false, false, false, false, false, false, false, false, false, false, false, false, false, false, false, false, false, false, false, false, false, false, false, false, false, false, false] rfl rfl (by kernel_rfl) (fun _ _ _ h => h) (Or.inl ⟨by rfl, ?_⟩) ?_ ?_
                      rotate_left
                      · intro w'
                        go_simp
                        with_reducible rfl
                      rotate_left
                      · simp only [Act.put, List.setIfInBounds_toArray, List.set_cons_zero, List.set_cons_succ, i64_w, i32_w]
                        rfl
                      refine pure_ (i := 4) (N := some 88) (v := ?_) (a' := ?_) #[true, true, true, true, true, false, false, false, false, false, false, false, false, false, false, false, false, false, false, false, false, false, false, false, false, false, false, false, false, false, false, false, false] rfl rfl (by kernel_rfl) (fun _ _ _ h => h) (Or.inl ⟨by rfl, ?_⟩) ?_ ?_
                      rotate_left
                      · intro w'
                        go_simp
                        with_reducible rfl
                      rotate_left
                      · simp only [Act.put, List.setIfInBounds_toArray, List.set_cons_zero, List.set_cons_succ, i64_w, i32_w]
                        rfl
                      refine pure_ (i := 6) (N := some 90) (v := ?_) (a' := ?_) #[true, true, true, true, true, false, true, false, false, false, false, false, false, false, false, false, false, false, false, false, false, false, false, false, false, false, false, false, false, false, false, false, false] rfl rfl (by kernel_rfl) (fun _ _ _ h => h) (Or.inl ⟨by rfl, ?_⟩) ?_ ?_
                      rotate_left
                      · intro w'
                        go_simp
                        with_reducible rfl
                      rotate_left
                      · simp only [Act.put, List.setIfInBounds_toArray, List.set_cons_zero, List.set_cons_succ, i64_w, i32_w]
                        rfl
                      refine pure_ (i := 9) (N := some 93) (v := ?_) (a' := ?_) #[true, true, true, true, true, false, true, false, false, true, false, false, false, false, false, false, false, false, false, false, false, false, false, false, false, false, false, false, false, false, false, false, false] rfl rfl (by kernel_rfl) (fun _ _ _ h => h) (Or.inl ⟨by rfl, ?_⟩) ?_ ?_
                      rotate_left
                      · intro w'
                        go_simp
                        with_reducible rfl
                      rotate_left
                      · simp only [Act.put, List.setIfInBounds_toArray, List.set_cons_zero, List.set_cons_succ, i64_w, i32_w]
                        rfl
                      refine pure_ (i := 10) (N := some 94) (v := ?_) (a' := ?_) #[true, true, true, true, true, false, true, false, false, true, true, false, false, false, false, false, false, false, false, false, false, false, false, false, false, false, false, false, false, false, false, false, false] rfl rfl (by kernel_rfl) (fun _ _ _ h => h) (Or.inl ⟨by rfl, ?_⟩) ?_ ?_
                      rotate_left
                      · intro w'
                        go_simp
                        with_reducible rfl
                      rotate_left
                      · simp only [Act.put, List.setIfInBounds_toArray, List.set_cons_zero, List.set_cons_succ, i64_w, i32_w]
                        rfl
                      refine pure_ (i := 12) (N := some 96) (v := ?_) (a' := ?_) #[true, true, true, true, true, false, true, false, false, true, true, false, true, false, false, false, false, false, false, false, false, false, false, false, false, false, false, false, false, false, false, false, false] rfl rfl (by kernel_rfl) (fun _ _ _ h => h) (Or.inl ⟨by rfl, ?_⟩) ?_ ?_
                      rotate_left
                      · intro w'
                        go_simp
                        with_reducible rfl
                      rotate_left
                      · simp only [Act.put, List.setIfInBounds_toArray, List.set_cons_zero, List.set_cons_succ, i64_w, i32_w]
                        rfl
                      refine take_ (i := 5) (N := some 89) (v := ?_) (a' := ?_) #[true, true, true, true, true, true, true, false, false, true, true, false, true, false, false, false, false, false, false, false, false, false, false, false, false, false, false, false, false, false, false, false, false] rfl rfl (by kernel_rfl) (fun _ _ _ h => h) (Or.inl ⟨by rfl, ?_⟩) hHeld ?_ ?_
                      rotate_left
                      · rintro w' ⟨s0, s1, s2, s3, s4, s5, s6, s7, s8, s9, s10, s11, s12, s13⟩
                        go_simp
                        with_reducible rfl
                      rotate_left
                      · simp only [Act.put, List.setIfInBounds_toArray, List.set_cons_zero, List.set_cons_succ, i64_w, i32_w]
                        rfl
                      refine pure_ (i := 7) (N := some 91) (v := ?_) (a' := ?_) #[true, true, true, true, true, true, true, true, false, true, true, false, true, false, false, false, false, false, false, false, false, false, false, false, false, false, false, false, false, false, false, false, false] rfl rfl (by kernel_rfl) (fun _ _ _ h => h) (Or.inl ⟨by rfl, ?_⟩) ?_ ?_
                      rotate_left
                      · intro w'
                        go_simp
                        with_reducible rfl
                      rotate_left
                      · simp only [Act.put, List.setIfInBounds_toArray, List.set_cons_zero, List.set_cons_succ, i64_w, i32_w]
                        rfl
                      refine take_ (i := 8) (N := some 92) (v := ?_) (a' := ?_) #[true, true, true, true, true, true, true, true, true, true, true, false, true, false, false, false, false, false, false, false, false, false, false, false, false, false, false, false, false, false, false, false, false] rfl rfl (by kernel_rfl) (fun _ _ _ h => h) (Or.inl ⟨by rfl, ?_⟩) hHeld ?_ ?_
                      rotate_left
                      · rintro w' ⟨s0, s1, s2, s3, s4, s5, s6, s7, s8, s9, s10, s11, s12, s13⟩
                        go_simp
                        with_reducible rfl
                      rotate_left
                      · simp only [Act.put, List.setIfInBounds_toArray, List.set_cons_zero, List.set_cons_succ, i64_w, i32_w]
                        rfl
                      refine take_ (i := 11) (N := some 95) (v := ?_) (a' := ?_) #[true, true, true, true, true, true, true, true, true, true, true, true, true, false, false, false, false, false, false, false, false, false, false, false, false, false, false, false, false, false, false, false, false] rfl rfl (by kernel_rfl) (fun _ _ _ h => h) (Or.inl ⟨by rfl, ?_⟩) hHeld ?_ ?_
                      rotate_left
                      · rintro w' ⟨s0, s1, s2, s3, s4, s5, s6, s7, s8, s9, s10, s11, s12, s13⟩
                        go_simp
                        with_reducible rfl
                      rotate_left
                      · simp only [Act.put, List.setIfInBounds_toArray, List.set_cons_zero, List.set_cons_succ, i64_w, i32_w]
                        rfl
                      refine pure_ (i := 13) (N := some 97) (v := ?_) (a' := ?_) #[true, true, true, true, true, true, true, true, true, true, true, true, true, true, false, false, false, false, false, false, false, false, false, false, false, false, false, false, false, false, false, false, false] rfl rfl (by kernel_rfl) (fun _ _ _ h => h) (Or.inl ⟨by rfl, ?_⟩) ?_ ?_
                      rotate_left
                      · intro w'
                        go_simp
                        with_reducible rfl
                      rotate_left
                      · simp only [Act.put, List.setIfInBounds_toArray, List.set_cons_zero, List.set_cons_succ, i64_w, i32_w]
                        rfl
                      refine take_ (i := 14) (N := some 98) (v := ?_) (a' := ?_) #[true, true, true, true, true, true, true, true, true, true, true, true, true, true, true, false, false, false, false, false, false, false, false, false, false, false, false, false, false, false, false, false, false] rfl rfl (by kernel_rfl) (fun _ _ _ h => h) (Or.inl ⟨by rfl, ?_⟩) hHeld ?_ ?_
                      rotate_left
                      · rintro w' ⟨s0, s1, s2, s3, s4, s5, s6, s7, s8, s9, s10, s11, s12, s13⟩
                        go_simp
                        with_reducible rfl
                      rotate_left
                      · simp only [Act.put, List.setIfInBounds_toArray, List.set_cons_zero, List.set_cons_succ, i64_w, i32_w]
                        rfl
                      refine one_ (i := 15) (N := some 99) #[true, true, true, true, true, true, true, true, true, true, true, true, true, true, true, true, false, false, false, false, false, false, false, false, false, false, false, false, false, false, false, false, false] rfl rfl (by kernel_rfl) (by decide) (fun K hK => ?_)
                      refine goes_ Try.func18 (by kernel_rfl) rfl #[.agg #[.int .i64 (rd_T45 r (j : Int)).f0, .slice P1 (rd_T45 r (j : Int)).f1.length p1, .slice P2 (rd_T45 r (j : Int)).f2.length p2, .string (rd_T45 r (j : Int)).f3, .int .i64 (rd_T45 r (j : Int)).f4, .int .i64 (rd_T45 r (j : Int)).f5], .agg #[.int .i64 (rd_T45 l0 (j : Int)).f0, .slice Q1 (rd_T45 l0 (j : Int)).f1.length q1, .slice Q2 (rd_T45 l0 (j : Int)).f2.length q2, .string (rd_T45 l0 (j : Int)).f3, .int .i64 (rd_T45 l0 (j : Int)).f4, .int .i64 (rd_T45 l0 (j : Int)).f5]] (by rfl) rfl rfl (by simp only [List.map_toArray, List.map_cons, List.map_nil]; rfl) ?_
                      with_reducible refine (gangwayref0_EqNode.calls k _ P1 p1 _ P2 p2 _ _ _ _ _ Q1 q1 _ Q2 q2 _ _ _ _ true _ (Kd.C_below HP.out.1 (by repeat (first | exact Below.refl _ _ | apply below_alloc | apply pw_below_drewN | apply below_drew1 | apply below_drew))) HPL.out.1 (Kd.C_below HP.out.2 (by repeat (first | exact Below.refl _ _ | apply below_alloc | apply pw_below_drewN | apply below_drew1 | apply below_drew))) HPL.out.2 (Kd.C_below HQ.out.1 (by repeat (first | exact Below.refl _ _ | apply below_alloc | apply pw_below_drewN | apply below_drew1 | apply below_drew))) HQL.out.1 (Kd.C_below HQ.out.2 (by repeat (first | exact Below.refl _ _ | apply below_alloc | apply pw_below_drewN | apply below_drew1 | apply below_drew))) HQL.out.2 HEN.out).mono ?_
                      rintro e w8 ⟨rfl, hb⟩
                      refine ⟨_, rfl, ?_⟩
                      have ht0n := (hb.cell (World.block_lt_of_cell? _ _ ht0)).trans ht0
                      have rx0n := (hb.cell (World.block_lt_of_cell? _ _ rx0)).trans rx0
                      have rx1n := (hb.cell (World.block_lt_of_cell? _ _ rx1)).trans rx1
                      have rx2n := (hb.cell (World.block_lt_of_cell? _ _ rx2)).trans rx2
                      have rx3n := (hb.cell (World.block_lt_of_cell? _ _ rx3)).trans rx3
                      have rx4n := (hb.cell (World.block_lt_of_cell? _ _ rx4)).trans rx4
                      have rx5n := (hb.cell (World.block_lt_of_cell? _ _ rx5)).trans rx5
                      have hs0n := (hb.cell (World.block_lt_of_cell? _ _ hs0)).trans hs0
                      have lx0n := (hb.cell (World.block_lt_of_cell? _ _ lx0)).trans lx0
                      have lx1n := (hb.cell (World.block_lt_of_cell? _ _ lx1)).trans lx1
                      have lx2n := (hb.cell (World.block_lt_of_cell? _ _ lx2)).trans lx2
                      have lx3n := (hb.cell (World.block_lt_of_cell? _ _ lx3)).trans lx3
                      have lx4n := (hb.cell (World.block_lt_of_cell? _ _ lx4)).trans lx4
                      have lx5n := (hb.cell (World.block_lt_of_cell? _ _ lx5)).trans lx5
                      have HYn := Aside0.mk (below_step (by repeat (first | exact HY7.out | apply below_alloc | apply pw_below_drewN | apply below_drew1 | apply below_drew)) hb)
                      have HSn := Aside0.mk (blk_below (by repeat (first | exact HS7.out | apply blk_drewN | apply blk_alloc | apply blk_drew)) hb)
                      have HTn := Aside0.mk (blk_below (by repeat (first | exact HT7.out | apply blk_drewN | apply blk_alloc | apply blk_drew)) hb)
                      clear hb
                      refine hK.out _ _ ⟨ht0n, rx0n, rx1n, rx2n, rx3n, rx4n, rx5n, hs0n, lx0n, lx1n, lx2n, lx3n, lx4n, lx5n⟩ (fun hHeld => ?_)
                      clear hK K
                      refine norm_ (a' := ?_) ?_ ?_
                      rotate_left
                      · show Act.put _ (some 99) _ = _
                        simp only [Act.put, List.setIfInBounds_toArray, List.set_cons_zero, List.set_cons_succ, i64_w, i32_w]
                        rfl
                      refine pure_ (i := 16) (N := some 100) (v := ?_) (a' := ?_) #[true, true, true, true, true, true, true, true, true, true, true, true, true, true, true, true, true, false, false, false, false, false, false, false, false, false, false, false, false, false, false, false, false] rfl rfl (by kernel_rfl) (fun _ _ _ h => h) (Or.inl ⟨by rfl, ?_⟩) ?_ ?_
                      rotate_left
                      · intro w'
                        go_simp
                        with_reducible rfl
                      rotate_left
                      · simp only [Act.put, List.setIfInBounds_toArray, List.set_cons_zero, List.set_cons_succ, i64_w, i32_w]
                        rfl
                      refine pure_ (i := 17) (N := some 101) (v := ?_) (a' := ?_) #[true, true, true, true, true, true, true, true, true, true, true, true, true, true, true, true, true, true, false, false, false, false, false, false, false, false, false, false, false, false, false, false, false] rfl rfl (by kernel_rfl) (fun _ _ _ h => h) (Or.inl ⟨by rfl, ?_⟩) ?_ ?_
                      rotate_left
                      · intro w'
                        go_simp
                        with_reducible rfl
                      rotate_left
                      · simp only [Act.put, List.setIfInBounds_toArray, List.set_cons_zero, List.set_cons_succ, i64_w, i32_w]
                        rfl
                      refine pure_ (i := 18) (N := some 102) (v := ?_) (a' := ?_) #[true, true, true, true, true, true, true, true, true, true, true, true, true, true, true, true, true, true, true, false, false, false, false, false, false, false, false, false, false, false, false, false, false] rfl rfl (by kernel_rfl) (fun _ _ _ h => h) (Or.inl ⟨by rfl, ?_⟩) ?_ ?_
                      rotate_left
                      · intro w'
                        go_simp
                        with_reducible rfl
                      rotate_left
                      · simp only [Act.put, List.setIfInBounds_toArray, List.set_cons_zero, List.set_cons_succ, i64_w, i32_w]
                        rfl
                      refine pure_ (i := 19) (N := some 103) (v := ?_) (a' := ?_) #[true, true, true, true, true, true, true, true, true, true, true, true, true, true, true, true, true, true, true, true, false, false, false, false, false, false, false, false, false, false, false, false, false] rfl rfl (by kernel_rfl) (fun _ _ _ h => h) (Or.inl ⟨by rfl, ?_⟩) ?_ ?_
                      rotate_left
                      · intro w'
                        go_simp
                        with_reducible rfl
                      rotate_left
                      · simp only [Act.put, List.setIfInBounds_toArray, List.set_cons_zero, List.set_cons_succ, i64_w, i32_w]
                        rfl
                      refine pure_ (i := 20) (N := some 104) (v := ?_) (a' := ?_) #[true, true, true, true, true, true, true, true, true, true, true, true, true, true, true, true, true, true, true, true, true, false, false, false, false, false, false, false, false, false, false, false, false] rfl rfl (by kernel_rfl) (fun _ _ _ h => h) (Or.inl ⟨by rfl, ?_⟩) ?_ ?_
                      rotate_left
                      · intro w'
                        go_simp
                        with_reducible rfl
                      rotate_left
                      · simp only [Act.put, List.setIfInBounds_toArray, List.set_cons_zero, List.set_cons_succ, i64_w, i32_w]
                        rfl
                      refine pure_ (i := 21) (N := some 105) (v := ?_) (a' := ?_) #[true, true, true, true, true, true, true, true, true, true, true, true, true, true, true, true, true, true, true, true, true, true, false, false, false, false, false, false, false, false, false, false, false] rfl rfl (by kernel_rfl) (fun _ _ _ h => h) (Or.inl ⟨by rfl, ?_⟩) ?_ ?_
                      rotate_left
                      · intro w'
                        go_simp
                        with_reducible rfl
                      rotate_left
                      · simp only [Act.put, List.setIfInBounds_toArray, List.set_cons_zero, List.set_cons_succ, i64_w, i32_w]
                        rfl
                      refine pure_ (i := 22) (N := some 106) (v := ?_) (a' := ?_) #[true, true, true, true, true, true, true, true, true, true, true, true, true, true, true, true, true, true, true, true, true, true, true, false, false, false, false, false, false, false, false, false, false] rfl rfl (by kernel_rfl) (fun _ _ _ h => h) (Or.inl ⟨by rfl, ?_⟩) ?_ ?_
                      rotate_left
                      · intro w'
                        go_simp
                        with_reducible rfl
                      rotate_left
                      · simp only [Act.put, List.setIfInBounds_toArray, List.set_cons_zero, List.set_cons_succ, i64_w, i32_w]
                        rfl
                      refine pure_ (i := 23) (N := some 107) (v := undef) (a' := ?_) #[true, true, true, true, true, true, true, true, true, true, true, true, true, true, true, true, true, true, true, true, true, true, true, true, false, false, false, false, false, false, false, false, false] rfl rfl (by kernel_rfl) (fun _ _ _ h => h) (Or.inr ⟨by rfl, rfl⟩) ?_ ?_
                      rotate_left
                      · simp only [Act.put, List.setIfInBounds_toArray, List.set_cons_zero, List.set_cons_succ, i64_w, i32_w]
                        rfl
                      refine pure_ (i := 24) (N := some 108) (v := undef) (a' := ?_) #[true, true, true, true, true, true, true, true, true, true, true, true, true, true, true, true, true, true, true, true, true, true, true, true, true, false, false, false, false, false, false, false, false] rfl rfl (by kernel_rfl) (fun _ _ _ h => h) (Or.inr ⟨by rfl, rfl⟩) ?_ ?_
                      rotate_left
                      · simp only [Act.put, List.setIfInBounds_toArray, List.set_cons_zero, List.set_cons_succ, i64_w, i32_w]
                        rfl
                      refine pure_ (i := 25) (N := some 109) (v := undef) (a' := ?_) #[true, true, true, true, true, true, true, true, true, true, true, true, true, true, true, true, true, true, true, true, true, true, true, true, true, true, false, false, false, false, false, false, false] rfl rfl (by kernel_rfl) (fun _ _ _ h => h) (Or.inr ⟨by rfl, rfl⟩) ?_ ?_
                      rotate_left
                      · simp only [Act.put, List.setIfInBounds_toArray, List.set_cons_zero, List.set_cons_succ, i64_w, i32_w]
                        rfl
                      refine pure_ (i := 26) (N := some 110) (v := undef) (a' := ?_) #[true, true, true, true, true, true, true, true, true, true, true, true, true, true, true, true, true, true, true, true, true, true, true, true, true, true, true, false, false, false, false, false, false] rfl rfl (by kernel_rfl) (fun _ _ _ h => h) (Or.inr ⟨by rfl, rfl⟩) ?_ ?_
                      rotate_left
                      · simp only [Act.put, List.setIfInBounds_toArray, List.set_cons_zero, List.set_cons_succ, i64_w, i32_w]
                        rfl
                      refine pure_ (i := 27) (N := some 111) (v := undef) (a' := ?_) #[true, true, true, true, true, true, true, true, true, true, true, true, true, true, true, true, true, true, true, true, true, true, true, true, true, true, true, true, false, false, false, false, false] rfl rfl (by kernel_rfl) (fun _ _ _ h => h) (Or.inr ⟨by rfl, rfl⟩) ?_ ?_
                      rotate_left
                      · simp only [Act.put, List.setIfInBounds_toArray, List.set_cons_zero, List.set_cons_succ, i64_w, i32_w]
                        rfl
                      refine pure_ (i := 28) (N := some 112) (v := undef) (a' := ?_) #[true, true, true, true, true, true, true, true, true, true, true, true, true, true, true, true, true, true, true, true, true, true, true, true, true, true, true, true, true, false, false, false, false] rfl rfl (by kernel_rfl) (fun _ _ _ h => h) (Or.inr ⟨by rfl, rfl⟩) ?_ ?_
                      rotate_left
                      · simp only [Act.put, List.setIfInBounds_toArray, List.set_cons_zero, List.set_cons_succ, i64_w, i32_w]
                        rfl
                      refine pure_ (i := 29) (N := some 113) (v := undef) (a' := ?_) #[true, true, true, true, true, true, true, true, true, true, true, true, true, true, true, true, true, true, true, true, true, true, true, true, true, true, true, true, true, true, false, false, false] rfl rfl (by kernel_rfl) (fun _ _ _ h => h) (Or.inr ⟨by rfl, rfl⟩) ?_ ?_
                      rotate_left
                      · simp only [Act.put, List.setIfInBounds_toArray, List.set_cons_zero, List.set_cons_succ, i64_w, i32_w]
                        rfl
                      refine pure_ (i := 30) (N := some 114) (v := undef) (a' := ?_) #[true, true, true, true, true, true, true, true, true, true, true, true, true, true, true, true, true, true, true, true, true, true, true, true, true, true, true, true, true, true, true, false, false] rfl rfl (by kernel_rfl) (fun _ _ _ h => h) (Or.inr ⟨by rfl, rfl⟩) ?_ ?_
                      rotate_left
                      · simp only [Act.put, List.setIfInBounds_toArray, List.set_cons_zero, List.set_cons_succ, i64_w, i32_w]
                        rfl
                      refine pure_ (i := 31) (N := some 115) (v := ?_) (a' := ?_) #[true, true, true, true, true, true, true, true, true, true, true, true, true, true, true, true, true, true, true, true, true, true, true, true, true, true, true, true, true, true, true, true, false] rfl rfl (by kernel_rfl) (fun _ _ _ h => h) (Or.inl ⟨by rfl, ?_⟩) ?_ ?_
                      rotate_left
                      · intro w'
                        go_simp
                        with_reducible rfl
                      rotate_left
                      · simp only [Act.put, List.setIfInBounds_toArray, List.set_cons_zero, List.set_cons_succ, i64_w, i32_w]
                        rfl
                      refine pure_ (i := 32) (N := some 116) (v := ?_) (a' := ?_) #[true, true, true, true, true, true, true, true, true, true, true, true, true, true, true, true, true, true, true, true, true, true, true, true, true, true, true, true, true, true, true, true, true] rfl rfl (by kernel_rfl) (fun _ _ _ h => h) (Or.inl ⟨by rfl, ?_⟩) ?_ ?_
                      rotate_left
                      · intro w'
                        go_simp
                        with_reducible rfl
                      rotate_left
                      · simp only [Act.put, List.setIfInBounds_toArray, List.set_cons_zero, List.set_cons_succ, i64_w, i32_w]
                        rfl
                      refine done_ (by kernel_rfl) ?_
                      go_wp2
                      go_roundw
                      case rel => exact ⟨j + 1, by omega, by go_num, HSn, HTn, HYn⟩
                      case measure => simp [intOf]; omega
                  · go_wp2
                    go_roundw
                    case rel => exact ⟨n + 1, by omega, by go_num, HS7, ⟨below_step HB5.out HY7.out⟩⟩
                    case measure => simp [intOf]; omega
        · go_wp2_with (first | (go_at_call 16; refine (gangwaylaw13_wakes.calls k true _ HWK.out).mono ?_; rintro e w9 ⟨rfl, hb⟩; have HBn := Aside0.mk (below_step HB.out hb); clear hb))
          go_ret
          exact ⟨rfl, HBn.out⟩

end Go.Proofs.Ytjghephnjkffcaa.PCk

namespace Go.Proofs.Ytjghephnjkffcaa.PCk
open Go.RowKit Go.Proofs.YtjghephnjkffcaaW.PrintWords Go.Proofs.YtjghephnjkffcaaW.PrintLast Go.Proofs.YtjghephnjkffcaaW.PrintMore
attribute [local go_sem] max2_int min2_int max_two min_two max_three min_three max_four min_four
set_option linter.unusedVariables false
set_option linter.unusedSimpArgs false
/-! ### What Own, bad, may of the program's tree tell. -/
theorem own_l0 (l : List S45) (hm : l.length < 1599289640401) (hf : ∀ x ∈ l, FitsN x) : ∀ (d i : Nat), i + d = l.length → Ev (fun k => tree_Own.l0 k l (l.length : Int) (i : Int) (l.take i)) l
  | 0, i, h => Ev.step (f := fun _ => some l) (fun k => by rw [tree_Own.l0, if_neg (by omega), List.take_of_length_le (by omega)]) (Ev.now l)
  | d + 1, i, h => by
    have hi : i < l.length := by omega
    have hx : FitsN (rd_T45 l (i : Int)) := by rw [rdN_get l i hi]; exact hf _ (List.getElem_mem _)
    refine Ev.step (fun k => ?_) (own_l0 l hm hf d (i + 1) (by omega))
    rw [tree_Own.l0, if_pos (by omega), if_pos (by omega), if_pos (by omega), if_pos (by have := hx.1; simpa using this), if_pos (by have := hx.2; simpa using this), if_pos (by rw [List.length_take]; omega), up64 (by omega), rdN_get l i hi]
    show tree_Own.l0 k l _ _ (l.take i ++ [l[i]]) = _
    rw [take_next l i hi]
theorem own_ev (l : List S45) (hm : l.length < 1599289640401) (hf : ∀ x ∈ l, FitsN x) : Ev (fun k => tree_Own.f k l) l := own_l0 l hm hf l.length 0 (by omega)
theorem mayN_ev {l : List S45} {m : Bool} (h : Ev (fun k => tree_May.f k l) m) (ns : List Int) : Ev (fun k => tree_may.f k l ns) (m && ns.all fun n => hasB l n) := by
  unfold tree_may.f
  refine Ev.bind (f := fun _ t => if t = true then some (ns.all fun n => hasB l n) else some false) h ?_
  cases m with
  | true => exact Ev.congr (fun _ => if_pos rfl) (by simpa using Ev.now _)
  | false => exact Ev.congr (fun _ => if_neg (by simp)) (Ev.now _)
theorem bad_ev {l : List S45} (hl : l.length < 1599289640401) (hf : ∀ x ∈ l, FitsN x) (e : Int) (h : e = 100 → Ev (fun k => tree_May.f k l) true) : Ev (fun k => tree_bad.f k l e) (l, e) := by
  have ho := own_ev l hl hf
  unfold tree_bad.f
  by_cases h1 : e = 100
  · refine Ev.congr (fun k => if_pos h1) (Ev.bind (f := fun k t => if t = true then ((tree_Own.f k l).bind fun t => some (t, e)) else some ([], e)) (h h1) (Ev.congr (fun k => if_pos rfl) ?_))
    exact Ev.bind (f := fun _ t => some (t, e)) ho (Ev.now _)
  · exact Ev.congr (fun k => if_neg h1) (Ev.bind (f := fun _ t => some (t, e)) ho (Ev.now _))
theorem hasB_nat (l : List S45) (n : Nat) (h : n < l.length) : hasB l (n : Int) = ((rd_T45 l (n : Int)).f0 != 0) := by
  unfold hasB; rw [decide_eq_true (show 0 ≤ (n : Int) by omega), decide_eq_true (show (n : Int) < (l.length : Int) by omega)]; simp
theorem headB_parts {l : List S45} (h : Ev (fun k => tree_May.f k l) true) : headB l = true := by
  obtain ⟨K, hK⟩ := h
  have h1 : tree_May.f K l = some true := hK K (Nat.le_refl _)
  unfold tree_May.f at h1
  by_cases hh : headB l = true
  · exact hh
  · rw [if_neg hh] at h1; cases h1

end Go.Proofs.Ytjghephnjkffcaa.PCk

namespace Go.Proofs.Ytjghephnjkffcaa.PCk
open Go.RowKit Go.Proofs.YtjghephnjkffcaaW.PrintWords Go.Proofs.YtjghephnjkffcaaW.PrintLast Go.Proofs.YtjghephnjkffcaaW.PrintMore
attribute [local go_sem] max2_int min2_int max_two min_two max_three min_three max_four min_four
set_option linter.unusedVariables false
set_option linter.unusedSimpArgs false
-- IMPORT: Derived.Test.@N@OpensCk
theorem trimL_take : ∀ (k : Nat) (l : List S45), ∃ m, m ≤ l.length ∧ trimL k l = l.take m
  | 0, l => ⟨l.length, Nat.le_refl _, by rw [List.take_length]; rfl⟩
  | k + 1, l => by
    rw [trimL]
    split
    · obtain ⟨m, h1, h2⟩ := trimL_take k (l.take (l.length - 1))
      rw [List.length_take] at h1
      exact ⟨m, by omega, by rw [h2, List.take_take]; congr 1; omega⟩
    · exact ⟨l.length, Nat.le_refl _, by rw [List.take_length]⟩
theorem frees_at (l : List S45) (hl : l.length < 1599289640401) (hf : Fits l) (hm : Ev (fun k => tree_May.f k l) true) (n : Nat) (hn : n < l.length) : ∃ K, ∀ k, K ≤ k → FreesAt k l n := by
  obtain ⟨_, h64, hk0, hl0⟩ := head_parts (headB_parts hm)
  have hb := fun e => bad_ev (l := l) hl hf.n e (fun _ => hm)
  have hmay := mayN_ev hm [(n : Int)]
  have hall : ([(n : Int)].all fun n => hasB l n) = ((rd_T45 l (n : Int)).f0 != 0) := by simp [hasB_nat l n hn]
  rw [hall, Bool.true_and] at hmay
  have hr : 0 ≤ (n : Int) ∧ (n : Int) < (l.length : Int) := by omega
  -- what Free tells where it changes nothing
  have same : ∀ e : Int, e ≠ 0 → wantF l n = e → Ev (fun k => tree_Free.f k l (n : Int)) (l, e) → ∃ K, ∀ k, K ≤ k → FreesAt k l n := fun e he hw hev => by
    obtain ⟨K1, h1⟩ := hev
    obtain ⟨K2, h2⟩ := (eqTree l l (by omega) hf.n).out rfl
    exact ⟨K1 + K2, fun k hk => ⟨l, by rw [hw]; exact h1 k (by omega), fun _ => h2 k (by omega), Nat.le_refl _, fun h0 => absurd (hw.symm.trans h0) he⟩⟩
  by_cases k0 : (rd_T45 l (n : Int)).f0 = 0
  · refine same 100 (by decide) (by unfold wantF; rw [if_pos k0]) ?_
    rw [show ((rd_T45 l (n : Int)).f0 != 0) = false by simp [k0]] at hmay
    unfold tree_Free.f
    exact Ev.bind (f := fun k m => if m = true then (if 0 ≤ (n : Int) ∧ (n : Int) < (l.length : Int) then (if (n : Int) = 0 then tree_bad.f k l 63 else (if 0 < (rd_T45 l (n : Int)).f4 then tree_bad.f k l 63 else (tree_Own.f k l).bind fun u => freeD u (n : Int))) else none) else tree_bad.f k l 100) hmay (Ev.congr (fun k => if_neg (by simp)) (hb 100))
  rw [show ((rd_T45 l (n : Int)).f0 != 0) = true by simp [k0]] at hmay
  have step : ∀ {r : List S45 × Int}, Ev (fun k => if (n : Int) = 0 then tree_bad.f k l 63 else (if 0 < (rd_T45 l (n : Int)).f4 then tree_bad.f k l 63 else (tree_Own.f k l).bind fun u => freeD u (n : Int))) r → Ev (fun k => tree_Free.f k l (n : Int)) r := fun h => by
    unfold tree_Free.f
    exact Ev.bind (f := fun k m => if m = true then (if 0 ≤ (n : Int) ∧ (n : Int) < (l.length : Int) then (if (n : Int) = 0 then tree_bad.f k l 63 else (if 0 < (rd_T45 l (n : Int)).f4 then tree_bad.f k l 63 else (tree_Own.f k l).bind fun u => freeD u (n : Int))) else none) else tree_bad.f k l 100) hmay (Ev.congr (fun k => by rw [if_pos rfl, if_pos hr]) h)
  by_cases k1 : n = 0
  · exact same 63 (by decide) (by unfold wantF; rw [if_neg k0, if_pos k1]) (step (Ev.congr (fun k => if_pos (by omega)) (hb 63)))
  by_cases k2 : 0 < (rd_T45 l (n : Int)).f4
  · exact same 63 (by decide) (by unfold wantF; rw [if_neg k0, if_neg k1, if_pos k2]) (step (Ev.congr (fun k => by rw [if_neg (by omega), if_pos k2]) (hb 63)))
  have hw : wantF l n = 0 := by unfold wantF; rw [if_neg k0, if_neg k1, if_neg k2]
  have hev := step (r := (trimL l.length (l.set n z45), 0)) (Ev.congr (fun k => by rw [if_neg (by omega), if_neg k2]) (Ev.bind (f := fun _ u => freeD u (n : Int)) (own_ev l hl hf.n) (Ev.congr (fun _ => by unfold freeD; rw [if_pos ⟨hr.1, hr.2, by omega⟩, Int.toNat_natCast]) (Ev.now _))))
  obtain ⟨m, hm1, hm2⟩ := trimL_take l.length (l.set n z45)
  rw [List.length_set] at hm1
  rw [hm2] at hev
  have hrd : ∀ j : Nat, j < m → rd_T45 ((l.set n z45).take m) (j : Int) = if n = j then z45 else rd_T45 l (j : Int) := fun j hj => by
    unfold rd_T45
    rw [Int.toNat_natCast, List.getD_eq_getElem?_getD, List.getD_eq_getElem?_getD, List.getElem?_take, if_pos hj, List.getElem?_set]
    by_cases e : n = j
    · subst e; simp [hn]
    · simp [e]
  obtain ⟨K1, h1⟩ := hev
  obtain ⟨K2, h2⟩ := ev_all (P := fun j k => j < m → (j ≠ n → eqN k (rd_T45 ((l.set n z45).take m) (j : Int)) (rd_T45 l (j : Int)) = some true) ∧ (j = n → eqN k (rd_T45 ((l.set n z45).take m) (j : Int)) z45 = some true)) (fun j => by
    by_cases hj : j < m
    · by_cases e : n = j
      · obtain ⟨K, hK⟩ := (eqNode z45 z45 ⟨by show 0 < _; omega, by show 0 < _; omega⟩).out rfl
        exact ⟨K, fun k hk _ => ⟨fun h => absurd e.symm h, fun _ => by rw [hrd j hj, if_pos e]; exact hK k hk⟩⟩
      · obtain ⟨K, hK⟩ := (eqNode (rd_T45 l (j : Int)) (rd_T45 l (j : Int)) (fits_at hf j (by omega)).1).out rfl
        exact ⟨K, fun k hk _ => ⟨fun _ => by rw [hrd j hj, if_neg e]; exact hK k hk, fun h => absurd h.symm e⟩⟩
    · exact ⟨0, fun k _ h => absurd h hj⟩) m
  refine ⟨K1 + K2, fun k hk => ⟨(l.set n z45).take m, by rw [hw]; exact h1 k (by omega), fun h => absurd hw h, by rw [List.length_take]; omega, fun _ j hj => ?_⟩⟩
  rw [List.length_take, List.length_set] at hj
  exact h2 k (by omega) j (by omega) (by omega)
theorem frees_facts (l : List S45) (q : List S38) (h : ok27 (l, q)) : ∃ (k : Nat) (hv m : Bool), gangwaylaw13_Heavy.f k l q = some hv ∧ (hv = false → gangwayref13_May.f k l = some m) ∧ (hv = false → m = true → 0 < l.length ∧ gangwaylaw13_wakes.f k = some true ∧ ∀ n : Nat, n < l.length → FreesAt k l n) := by
  obtain ⟨hl, hf⟩ := fits_of (l := l) h.1
  obtain ⟨hq1, hq2, hq3⟩ := h.2
  change q.length * 128 ≤ 140737488351232 at hq2
  obtain ⟨hv, ⟨K1, hH⟩, _⟩ := heavy_ev l (by omega) q (by omega)
  obtain ⟨m, hT, ⟨K3, hM⟩⟩ := may_both l hf
  obtain ⟨K6, hW⟩ := wakes_ev
  cases m with
  | false => exact ⟨K1 + K3 + K6, hv, false, hH _ (by omega), fun _ => hM _ (by omega), fun _ h => by cases h⟩
  | true =>
    obtain ⟨K7, hN⟩ := ev_all (P := fun n k => n < l.length → FreesAt k l n) (fun n => by
      by_cases hn : n < l.length
      · obtain ⟨K, hK⟩ := frees_at l hl hf hT n hn
        exact ⟨K, fun k hk _ => hK k hk⟩
      · exact ⟨0, fun k _ h => absurd h hn⟩) l.length
    exact ⟨K1 + K3 + K6 + K7, hv, true, hH _ (by omega), fun _ => hM _ (by omega), fun _ _ => ⟨(head_parts (headB_parts hT)).1, hW _ (by omega), fun n hn => hN _ (by omega) n hn hn⟩⟩
theorem treeFrees_row (cs : Array Value) (x : List S45 × List S38) (w : World) (h : ok27 x) (hk : (Kd.pair (Kd.slice 45 k45) (Kd.slice 38 k38)).K w x cs.toList) :
    Calls Try.prog 4 #[.agg cs] w fun e w' => e = .returned (.bool true) ∧ Below w.heap.size w w' := by
  obtain ⟨l, q⟩ := x
  obtain ⟨c1, c2, e, ⟨A0, c0, rfl, hl0, h0⟩, ⟨A1, c1, rfl, hl1, h1⟩⟩ := hk
  obtain rfl : cs = #[.slice A0 l.length c0, .slice A1 q.length c1] := Array.ext' e
  obtain ⟨k, hv, m, hH, hM, hT⟩ := frees_facts l q h
  exact gangwaylaw13_TreeFrees.walk k A0 c0 l A1 c1 q w h0 hl0 h1 hl1 hv m hH hM hT

end Go.Proofs.Ytjghephnjkffcaa.PCk
