/- Parts of one proof, merged by merge.py of this repo: walks over the given program and plain facts, used by the law of the file YtjghephnjkffcaaCTreeData. -/
import Derived.Test.YtjghephnjkffcaaMTreeData11
import Derived.Test.YtjghephnjkffcaaMTreeData13
import Derived.Test.YtjghephnjkffcaaMTreeData12
import Derived.Test.YtjghephnjkffcaaMTreeData4
import Derived.Test.YtjghephnjkffcaaMTreeData6
import Derived.Test.YtjghephnjkffcaaMTreeData5
import Derived.Test.YtjghephnjkffcaaMTreeData8
import Derived.Test.YtjghephnjkffcaaMTreeData10
import Derived.Test.YtjghephnjkffcaaMTreeData2
import Derived.Deep.RegionHeld3
namespace Go.Proofs.Ytjghephnjkffcaa.PCk
open Go.RowKit Go.Proofs.YtjghephnjkffcaaW.PrintWords Go.Proofs.YtjghephnjkffcaaW.PrintLast Go.Proofs.YtjghephnjkffcaaW.PrintMore
attribute [local go_sem] max2_int min2_int max_two min_two max_three min_three max_four min_four
set_option linter.unusedVariables false
set_option linter.unusedSimpArgs false
-- FUNCTION: gangway/gangwaylaw13.TreeData
-- IMPORT: Derived.Test.@N@WOwn
-- IMPORT: Derived.Test.@N@DLawfrees
-- IMPORT: Derived.Test.@N@DLiswithin
-- IMPORT: Derived.Test.@N@DWrite
-- IMPORT: Derived.Test.@N@DRead
-- IMPORT: Derived.Test.@N@DCut
-- IMPORT: Derived.Deep.RegionHeld3
/-- What the law meets of one act at a tree that may be. -/
def DataAt (k : Nat) (l : List S45) (a : S38) : Prop :=
  a.f10.length < 140737488355328 ∧ ∃ is ti : Bool, gangwayref13_Is.f l a.f1 = some is ∧ gangwayref0_Time.f a.f11 = some ti ∧ (is = true → 0 ≤ a.f1 ∧ a.f1 < (l.length : Int)) ∧ (is = true → (rd_T45 l a.f1).f0 = 1 → ti = true →
    ∃ (at_ : Int) (u : List S45) (e : Int), gangwaylaw0_Within.f a.f8 16394 = some at_ ∧ 0 ≤ at_ ∧ at_ < 16394 ∧ tree_Write.f k l a.f1 at_ a.f10 a.f11 = some (u, e) ∧ e = (if at_ + (a.f10.length : Int) ≤ 16384 then 0 else 22) ∧
      (e = 0 → a.f10.length ≠ 0 → ∃ (D : List Int) (v : List S45), tree_Read.f k u a.f1 at_ (a.f10.length : Int) = some (a.f10, 0) ∧ tree_Read.f k u a.f1 0 16384 = some (D, 0) ∧ gangwayref0_EqBytes.f k a.f10 a.f10 = some true ∧
        D.length = max (rd_T45 l a.f1).f1.length (at_.toNat + a.f10.length) ∧ D.length ≤ 16384 ∧
        (∀ i : Nat, i < D.length → ¬ (at_.toNat ≤ i ∧ i < at_.toNat + a.f10.length) → rd D (i : Int) = if i < (rd_T45 l a.f1).f1.length then rd (rd_T45 l a.f1).f1 (i : Int) else 0) ∧
        tree_Cut.f k u a.f1 (D.length : Int) a.f11 = some (v, 0) ∧ gangwayref0_EqTree.f k v u = some true))
theorem act_cells {W w : World} {A : Option Addr} {n : Nat} {l : List S38} (h : Kd.C k38 w A n l) (hb : Below w.heap.size w W) (i : Nat) (hi : i < n) : ∃ ad X y, A = some ad ∧ W.cell? (ad.add (i * 12)) = some (.int .i64 (rd_T38 l i).f0) ∧ W.cell? ⟨(ad.add (i * 12)).block, (ad.add (i * 12)).off + 1, none⟩ = some (.int .i64 (rd_T38 l i).f1) ∧ W.cell? ⟨(ad.add (i * 12)).block, (ad.add (i * 12)).off + 2, none⟩ = some (.int .i64 (rd_T38 l i).f2) ∧ W.cell? ⟨(ad.add (i * 12)).block, (ad.add (i * 12)).off + 3, none⟩ = some (.int .i64 (rd_T38 l i).f3) ∧ W.cell? ⟨(ad.add (i * 12)).block, (ad.add (i * 12)).off + 4, none⟩ = some (.string (rd_T38 l i).f4) ∧ W.cell? ⟨(ad.add (i * 12)).block, (ad.add (i * 12)).off + 5, none⟩ = some (.string (rd_T38 l i).f5) ∧ W.cell? ⟨(ad.add (i * 12)).block, (ad.add (i * 12)).off + 6, none⟩ = some (.int .i64 (rd_T38 l i).f6) ∧ W.cell? ⟨(ad.add (i * 12)).block, (ad.add (i * 12)).off + 7, none⟩ = some (.bool (rd_T38 l i).f7) ∧ W.cell? ⟨(ad.add (i * 12)).block, (ad.add (i * 12)).off + 8, none⟩ = some (.int .i64 (rd_T38 l i).f8) ∧ W.cell? ⟨(ad.add (i * 12)).block, (ad.add (i * 12)).off + 9, none⟩ = some (.int .i64 (rd_T38 l i).f9) ∧ W.cell? ⟨(ad.add (i * 12)).block, (ad.add (i * 12)).off + 10, none⟩ = some (.slice X (rd_T38 l i).f10.length y) ∧ W.cell? ⟨(ad.add (i * 12)).block, (ad.add (i * 12)).off + 11, none⟩ = some (.int .i64 (rd_T38 l i).f11) ∧ (rd_T38 l i).f10.length ≤ y ∧ Kd.C (Kd.int .u8) w X (rd_T38 l i).f10.length (rd_T38 l i).f10 := by
  obtain ⟨ad, X, y, ee, h0, h1, h2, h3, h4, h5, h6, h7, h8, h9, h10, h11, hy, hC⟩ := at_T38 h (i : Int) (by omega) (by omega)
  rw [Int.toNat_natCast] at h0 h1 h2 h3 h4 h5 h6 h7 h8 h9 h10 h11
  have up : ∀ {a : Addr} {v : Value}, w.cell? a = some v → W.cell? a = some v := fun h => (hb.cell (World.block_lt_of_cell? _ _ h)).trans h
  exact ⟨ad, X, y, ee, up h0, up h1, up h2, up h3, up h4, up h5, up h6, up h7, up h8, up h9, up h10, up h11, hy, hC⟩
theorem t_num (a : Int) (w : World) : Calls Try.prog 10 #[.int .i64 a] w fun e w' => e = .returned (.int .i64 a) ∧ w = w' := by
  go_enter Try.func10, Try.ntmps10
  go_wp2
  go_ret
  exact ⟨rfl, rfl⟩
set_option maxHeartbeats 8000000 in
set_option maxRecDepth 100000 in
theorem gangwaylaw13_TreeData.walk (k : Nat) (A0 : Option Addr) (c0 : Nat) (l0 : List S45) (A1 : Option Addr) (c1 : Nat) (l1 : List S38) (w : World) (hr0 : Kd.C k45 w A0 l0.length l0) (hc0 : l0.length ≤ c0) (hr1 : Kd.C k38 w A1 l1.length l1) (hc1 : l1.length ≤ c1)
    (hv m : Bool) (hH : gangwaylaw13_Heavy.f k l0 l1 = some hv) (hM : hv = false → gangwayref13_May.f k l0 = some m) (hT : hv = false → m = true → gangwaylaw13_wakes.f k = some true ∧ ∀ n : Nat, n < l1.length → DataAt k l0 (rd_T38 l1 (n : Int))) :
    Calls Try.prog 5 #[.agg #[.slice A0 l0.length c0, .slice A1 l1.length c1]] w fun e w' => e = .returned (.bool true) ∧ Below w.heap.size w w' := by
  have HR0 := Aside0.mk hr0
  have HC0 := Aside0.mk hc0
  have HR1 := Aside0.mk hr1
  have HC1 := Aside0.mk hc1
  have HH := Aside0.mk hH
  have HM := Aside0.mk hM
  have HT := Aside0.mk hT
  have hut := Try.underlying24
  have hus := Try.underlying27
  have hun := Try.underlying45
  have HB := Aside0.mk (below_alloc (Below.refl w.heap.size w) (.cells #[.slice A0 l0.length c0, .slice A1 l1.length c1] 27))
  have HBS := Aside0.mk (blk_new w (.cells #[.slice A0 l0.length c0, .slice A1 l1.length c1] 27))
  clear hr0 hc0 hr1 hc1 hH hM hT
  cases hv with
  | true =>
    clear HT HM
    go_enter Try.func5, Try.ntmps5
    go_wp2_with (first | (go_at_call 8; refine (gangwaylaw13_Heavy.calls k _ c0 l0 A1 c1 l1 _ _ (Kd.C_below HR0.out HB.out) HC0.out (Kd.C_below HR1.out HB.out) HC1.out HH.out).mono ?_; rintro e w1 ⟨rfl, hb⟩; have HBn := Aside0.mk (below_step HB.out hb); have HSn := Aside0.mk (blk_below HBS.out hb); clear HB HBS hb; have HB := HBn; have HBS := HSn; clear HBn HSn; obtain ⟨hs0, hs1⟩ := two_cells HBS.out))
    go_ret
    exact ⟨rfl, HB.out⟩
  | false =>
    have HMY := Aside0.mk (HM.out rfl)
    clear HM
    cases m with
    | false =>
      clear HT
      go_enter Try.func5, Try.ntmps5
      go_wp2_with (first | (go_at_call 8; refine (gangwaylaw13_Heavy.calls k _ c0 l0 A1 c1 l1 _ _ (Kd.C_below HR0.out HB.out) HC0.out (Kd.C_below HR1.out HB.out) HC1.out HH.out).mono ?_; rintro e w1 ⟨rfl, hb⟩; have HBn := Aside0.mk (below_step HB.out hb); have HSn := Aside0.mk (blk_below HBS.out hb); clear HB HBS hb; have HB := HBn; have HBS := HSn; clear HBn HSn; obtain ⟨hs0, hs1⟩ := two_cells HBS.out) | (go_at_call 12; refine (gangwayref13_May.calls k _ c0 l0 _ _ (Kd.C_below HR0.out HB.out) HC0.out HMY.out).mono ?_; rintro e w1 ⟨rfl, hb⟩; have HBn := Aside0.mk (below_step HB.out hb); have HSn := Aside0.mk (blk_below HBS.out hb); clear HB HBS hb; have HB := HBn; have HBS := HSn; clear HBn HSn))
      go_ret
      exact ⟨rfl, HB.out⟩
    | true =>
      obtain ⟨hwk, hfr⟩ := HT.out rfl rfl
      have HWK := Aside0.mk hwk
      have HFA := Aside0.mk hfr
      have HNUM : Aside0 (∀ x, gangwaylaw13_num.f x = some x) := ⟨fun _ => rfl⟩
      clear HT hwk hfr
      go_enter Try.func5, Try.ntmps5
      go_wp2_with (first | (go_at_call 8; refine (gangwaylaw13_Heavy.calls k _ c0 l0 A1 c1 l1 _ _ (Kd.C_below HR0.out HB.out) HC0.out (Kd.C_below HR1.out HB.out) HC1.out HH.out).mono ?_; rintro e w1 ⟨rfl, hb⟩; have HBn := Aside0.mk (below_step HB.out hb); have HSn := Aside0.mk (blk_below HBS.out hb); clear HB HBS hb; have HB := HBn; have HBS := HSn; clear HBn HSn; obtain ⟨hs0, hs1⟩ := two_cells HBS.out) | (go_at_call 12; refine (gangwayref13_May.calls k _ c0 l0 _ _ (Kd.C_below HR0.out HB.out) HC0.out HMY.out).mono ?_; rintro e w1 ⟨rfl, hb⟩; have HBn := Aside0.mk (below_step HB.out hb); have HSn := Aside0.mk (blk_below HBS.out hb); clear HB HBS hb; have HB := HBn; have HBS := HSn; clear HBn HSn))
      clear hs0 hs1
      go_loopw [3] (fun v3 w' => ∃ n : Nat, n ≤ l1.length ∧ n ≤ 6 ∧ v3 = .int .i64 n ∧ Aside0 (w'.heap[w.heap.size]? = some (.cells #[.slice A0 l0.length c0, .slice A1 l1.length c1] 27 (0, 0))) ∧ Aside0 (Below w.heap.size w w')) (fun v3 _ => 6 - (intOf v3).toNat)
      case atStart => exact ⟨0, Nat.zero_le _, Nat.zero_le _, rfl, HBS, HB⟩
      case round =>
        clear HBS HB
        obtain ⟨n, hn, hn6, rfl, HBS, HB⟩ := hrel
        obtain ⟨hs0, hs1⟩ := two_cells HBS.out
        have hmax := HR1.out.2.1
        by_cases hlt : n < l1.length
        · by_cases h6 : n < 6
          · have HDA := Aside0.mk (HFA.out n hlt)
            obtain ⟨aa, X, y, rfl, hx0, hx1, hx2, hx3, hx4, hx5, hx6, hx7, hx8, hx9, hx10, hx11, hy, hC⟩ := act_cells HR1.out HB.out n hlt
            have HXC := Aside0.mk hC
            have HXY := Aside0.mk hy
            clear hC hy
            go_upto_region 7 with (fail)
            have HS7 := Aside0.mk (blk_alloc HBS.out (.cells #[.int .i64 (rd_T38 l1 n).f0, .int .i64 (rd_T38 l1 n).f1, .int .i64 (rd_T38 l1 n).f2, .int .i64 (rd_T38 l1 n).f3, .string (rd_T38 l1 n).f4, .string (rd_T38 l1 n).f5, .int .i64 (rd_T38 l1 n).f6, .bool (rd_T38 l1 n).f7, .int .i64 (rd_T38 l1 n).f8, .int .i64 (rd_T38 l1 n).f9, .slice X (rd_T38 l1 n).f10.length y, .int .i64 (rd_T38 l1 n).f11] 38))
            have HT7 := Aside0.mk (blk_new wr (.cells #[.int .i64 (rd_T38 l1 n).f0, .int .i64 (rd_T38 l1 n).f1, .int .i64 (rd_T38 l1 n).f2, .int .i64 (rd_T38 l1 n).f3, .string (rd_T38 l1 n).f4, .string (rd_T38 l1 n).f5, .int .i64 (rd_T38 l1 n).f6, .bool (rd_T38 l1 n).f7, .int .i64 (rd_T38 l1 n).f8, .int .i64 (rd_T38 l1 n).f9, .slice X (rd_T38 l1 n).f10.length y, .int .i64 (rd_T38 l1 n).f11] 38))
            have HB7 := Aside0.mk (below_alloc HB.out (.cells #[.int .i64 (rd_T38 l1 n).f0, .int .i64 (rd_T38 l1 n).f1, .int .i64 (rd_T38 l1 n).f2, .int .i64 (rd_T38 l1 n).f3, .string (rd_T38 l1 n).f4, .string (rd_T38 l1 n).f5, .int .i64 (rd_T38 l1 n).f6, .bool (rd_T38 l1 n).f7, .int .i64 (rd_T38 l1 n).f8, .int .i64 (rd_T38 l1 n).f9, .slice X (rd_T38 l1 n).f10.length y, .int .i64 (rd_T38 l1 n).f11] 38))
            clear hs0 hs1 hx0 hx1 hx2 hx3 hx4 hx5 hx6 hx7 hx8 hx9 hx10 hx11
            obtain ⟨hs0, hs1⟩ := two_cells HS7.out
            have ht1 := (blk_cell HT7.out 1).trans rfl
            have ht8 := (blk_cell HT7.out 8).trans rfl
            have ht10 := (blk_cell HT7.out 10).trans rfl
            have ht11 := (blk_cell HT7.out 11).trans rfl
            obtain ⟨hbl, is, ti, his, hti, hir, hd⟩ := HDA.out
            have HBL := Aside0.mk hbl
            clear hbl
            have HIS := Aside0.mk his
            have HTI := Aside0.mk hti
            have HIR := Aside0.mk hir
            have HD := Aside0.mk hd
            clear his hti hir hd HDA
            cases is with
            | false =>
              go_wp2_with (first | (go_at_call 19; refine (gangwayref13_Is.calls A0 c0 l0 _ _ _ (Kd.C_below HR0.out HB7.out) HC0.out HIS.out).mono ?_; rintro e w5 ⟨rfl, hb⟩; have HBn := Aside0.mk (below_step HB7.out hb); have HSn := Aside0.mk (blk_below HS7.out hb); clear hb))
              go_roundw
              case rel => exact ⟨n + 1, by omega, by omega, by go_num, HSn, HBn⟩
              case measure => simp [intOf]; omega
            | true =>
              obtain ⟨hi0, hi1⟩ := HIR.out rfl
              obtain ⟨ad, Y1, z1, Y2, z2, rfl, hq0, hq1, _, _, _, _, hz1, hC1, _, _⟩ := at_T45 HR0.out _ hi0 hi1
              have HQ0 := Aside0.mk hq0
              have HQ1 := Aside0.mk hq1
              have HZ1 := Aside0.mk hz1
              have HCD := Aside0.mk hC1
              clear hq0 hq1 hz1 hC1
              by_cases k1 : (rd_T45 l0 (rd_T38 l1 n).f1).f0 = 1
              · have m0 : ((rd_T45 l0 (rd_T38 l1 n).f1).f0 == 1) = true := by simpa using k1
                have m1 : ((rd_T45 l0 (rd_T38 l1 n).f1).f0 != 1) = false := by simpa using k1
                cases ti with
                | false =>
                  go_wp2_with (first | (go_at_call 19; refine (gangwayref13_Is.calls _ c0 l0 _ _ _ (Kd.C_below HR0.out HB7.out) HC0.out HIS.out).mono ?_; rintro e w5 ⟨rfl, hb⟩; have HBn := Aside0.mk (below_step HB7.out hb); have HSn := Aside0.mk (blk_below HS7.out hb); have HTn := Aside0.mk (blk_below HT7.out hb); clear hb hs0 hs1 ht1 ht8 ht10 ht11; obtain ⟨hs0, hs1⟩ := two_cells HSn.out; have ht1 := (blk_cell HTn.out 1).trans rfl; have ht8 := (blk_cell HTn.out 8).trans rfl; have ht10 := (blk_cell HTn.out 10).trans rfl; have ht11 := (blk_cell HTn.out 11).trans rfl; have hq0 := (HBn.out.cell (World.block_lt_of_cell? _ _ HQ0.out)).trans HQ0.out; have hq1 := (HBn.out.cell (World.block_lt_of_cell? _ _ HQ1.out)).trans HQ1.out) | (go_at_call 20; refine (gangwayref0_Time.calls _ _ _ HTI.out).mono ?_; rintro e w6 ⟨rfl, ⟨nd, rfl⟩⟩))
                  go_roundw
                  case rel => exact ⟨n + 1, by omega, by omega, by go_num, ⟨(by repeat (first | exact HSn.out | apply blk_drewN | apply blk_alloc | apply blk_drew))⟩, ⟨(by repeat (first | exact HBn.out | apply below_alloc | apply pw_below_drewN | apply below_drew1 | apply below_drew))⟩⟩
                  case measure => simp [intOf]; omega
                | true =>
                  obtain ⟨at_, u, ee, hw, hat0, hat1, hwr, he, hre⟩ := HD.out rfl k1 rfl
                  have HWI := Aside0.mk hw
                  have HWR := Aside0.mk hwr
                  have HRE := Aside0.mk hre
                  have HEE := Aside0.mk he
                  clear hw hwr hre he HD
                  go_upto_region 11 with (first | (go_at_call 19; refine (gangwayref13_Is.calls _ c0 l0 _ _ _ (Kd.C_below HR0.out HB7.out) HC0.out HIS.out).mono ?_; rintro e w5 ⟨rfl, hb⟩; have HBn := Aside0.mk (below_step HB7.out hb); have HSn := Aside0.mk (blk_below HS7.out hb); have HTn := Aside0.mk (blk_below HT7.out hb); clear hb hs0 hs1 ht1 ht8 ht10 ht11; obtain ⟨hs0, hs1⟩ := two_cells HSn.out; have ht1 := (blk_cell HTn.out 1).trans rfl; have ht8 := (blk_cell HTn.out 8).trans rfl; have ht10 := (blk_cell HTn.out 10).trans rfl; have ht11 := (blk_cell HTn.out 11).trans rfl; have hq0 := (HBn.out.cell (World.block_lt_of_cell? _ _ HQ0.out)).trans HQ0.out; have hq1 := (HBn.out.cell (World.block_lt_of_cell? _ _ HQ1.out)).trans HQ1.out) | (go_at_call 20; refine (gangwayref0_Time.calls _ _ _ HTI.out).mono ?_; rintro e w6 ⟨rfl, ⟨nd, rfl⟩⟩) | (go_at_call 21; refine (gangwaylaw0_Within.calls _ _ _ _ HWI.out).mono ?_; rintro e w7 ⟨rfl, ⟨nd2, rfl⟩⟩) | (go_at_call 22; refine (tree_Write.calls k _ c0 l0 _ at_ X y _ _ u ee _ (Kd.C_below HR0.out (by repeat (first | exact HBn.out | apply below_alloc | apply pw_below_drewN | apply below_drew1 | apply below_drew))) HC0.out (Kd.C_below HXC.out (by repeat (first | exact HBn.out | apply below_alloc | apply pw_below_drewN | apply below_drew1 | apply below_drew))) HXY.out HWR.out).mono ?_; rintro e w8 ⟨v0, rfl, hS, hb⟩; obtain ⟨At, ct, rfl, hct, hCt⟩ := Kd.S_reads hS; have HB8 := Aside0.mk (below_step (by repeat (first | exact HBn.out | apply below_alloc | apply pw_below_drewN | apply below_drew1 | apply below_drew)) hb); have HS8 := Aside0.mk (blk_below (by repeat (first | exact HSn.out | apply blk_drewN | apply blk_alloc | apply blk_drew)) hb); have HT8 := Aside0.mk (blk_below (by repeat (first | exact HTn.out | apply blk_drewN | apply blk_alloc | apply blk_drew)) hb); have HCT := Aside0.mk hCt; have HCC := Aside0.mk hct; clear hb hS hCt hct))
                  have HS9 := Aside0.mk (blk_alloc HS8.out (.cells #[.slice At u.length ct] 24))
                  have HT9 := Aside0.mk (blk_alloc HT8.out (.cells #[.slice At u.length ct] 24))
                  have HU9 := Aside0.mk (blk_new w8 (.cells #[.slice At u.length ct] 24))
                  have HB9 := Aside0.mk (below_alloc HB8.out (.cells #[.slice At u.length ct] 24))
                  have HY9 := Aside0.mk (below_alloc (Below.refl w8.heap.size w8) (.cells #[.slice At u.length ct] 24))
                  clear hs0 hs1 ht1 ht8 ht10 ht11 hq0 hq1
                  obtain ⟨hs0, hs1⟩ := two_cells HS9.out
                  have ht1 := (blk_cell HT9.out 1).trans rfl
                  have ht10 := (blk_cell HT9.out 10).trans rfl
                  have ht11 := (blk_cell HT9.out 11).trans rfl
                  have hu0 := one_cell HU9.out
                  have hwl : wrap64 (at_ + ((rd_T38 l1 n).f10.length : Int)) = at_ + ((rd_T38 l1 n).f10.length : Int) := by have := HBL.out; unfold wrap64; omega
                  have hle := HEE.out
                  by_cases hfit : at_ + ((rd_T38 l1 n).f10.length : Int) ≤ 16384
                  · rw [if_pos hfit] at hle
                    subst hle
                    go_quiet (first | (go_at_call 10; (with_reducible refine (gangwaylaw13_num.calls _ _ _ (HNUM.out _)).mono ?_); rintro e w' ⟨rfl, ⟨nd, rfl⟩⟩; (try first | exact ⟨rfl, _, World.drewN_drewN _ _ _⟩ | exact ⟨rfl, _, Eq.trans (World.drewN_drewN _ _ _) (congrArg (World.drewN _) (Nat.add_assoc _ _ _))⟩)))
                    by_cases hz : (rd_T38 l1 n).f10.length = 0
                    · have z1 : ((((rd_T38 l1 n).f10.length : Nat) : Int) == 0) = true := by simpa using hz
                      have z2 : ((rd_T38 l1 n).f10.length == 0) = true := by simpa using hz
                      clear hz
                      go_wp2_with (first | (go_at_call 10; refine (t_num _ _).mono ?_; rintro e w' ⟨rfl, rfl⟩))
                      go_roundw
                      case rel => exact ⟨n + 1, by omega, by omega, by go_num, ⟨(by repeat (first | exact HS9.out | apply blk_drewN | apply blk_alloc | apply blk_drew))⟩, ⟨(by repeat (first | exact HB9.out | apply below_alloc | apply pw_below_drewN | apply below_drew1 | apply below_drew))⟩⟩
                      case measure => simp [intOf]; omega
                    · obtain ⟨D, v, hr1, hr2, heq, hDl, hDm, hDD, hcut, heqt⟩ := HRE.out rfl hz
                      have HR1' := Aside0.mk hr1
                      have HR2' := Aside0.mk hr2
                      have HEQ := Aside0.mk heq
                      have HDL := Aside0.mk hDl
                      have HDM := Aside0.mk hDm
                      have HDD := Aside0.mk hDD
                      have HCUT := Aside0.mk hcut
                      have HEQT := Aside0.mk heqt
                      have z1 : ((((rd_T38 l1 n).f10.length : Nat) : Int) == 0) = false := by simpa using hz
                      have z2 : ((rd_T38 l1 n).f10.length == 0) = false := by simpa using hz
                      have hmx : ((D.length : Int) != max (((rd_T45 l0 (rd_T38 l1 n).f1).f1.length : Nat) : Int) (at_ + ((rd_T38 l1 n).f10.length : Int))) = false := by
                        have : (D.length : Int) = max (((rd_T45 l0 (rd_T38 l1 n).f1).f1.length : Nat) : Int) (at_ + ((rd_T38 l1 n).f10.length : Int)) := by rw [hDl]; omega
                        rw [this]; simp
                      have HMX := Aside0.mk hmx
                      clear hr1 hr2 heq hDl hDm hDD hcut heqt hmx
                      go_wp2_with (first | (go_at_call 10; refine (t_num _ _).mono ?_; rintro e w' ⟨rfl, rfl⟩))
                      refine (tree_Read.calls k At ct u _ at_ _ (rd_T38 l1 n).f10 0 _ (Kd.C_below HCT.out (by repeat (first | exact HY9.out | apply below_alloc | apply pw_below_drewN | apply below_drew1 | apply below_drew))) HCC.out HR1'.out).mono ?_
                      rintro e w11 ⟨v11, rfl, hR, hb⟩
                      obtain ⟨A11, c11, rfl, hc11, hC11⟩ := Kd.R_reads hR
                      have HE11 := Aside0.mk hc11
                      have HC11 := Aside0.mk hC11
                      have HS11 := Aside0.mk (blk_below (by repeat (first | exact HS9.out | apply blk_drewN | apply blk_alloc | apply blk_drew)) hb)
                      have HT11 := Aside0.mk (blk_below (by repeat (first | exact HT9.out | apply blk_drewN | apply blk_alloc | apply blk_drew)) hb)
                      have HU11 := Aside0.mk (blk_below (by repeat (first | exact HU9.out | apply blk_drewN | apply blk_alloc | apply blk_drew)) hb)
                      have HB11 := Aside0.mk (below_step (by repeat (first | exact HB9.out | apply below_alloc | apply pw_below_drewN | apply below_drew1 | apply below_drew)) hb)
                      have HY11 := Aside0.mk (below_step (by repeat (first | exact HY9.out | apply below_alloc | apply pw_below_drewN | apply below_drew1 | apply below_drew)) hb)
                      clear hR hb hc11 hC11
                      clear hs0 hs1 ht1 ht10 ht11 hu0
                      obtain ⟨hs0, hs1⟩ := two_cells HS11.out
                      have ht1 := (blk_cell HT11.out 1).trans rfl
                      have ht10 := (blk_cell HT11.out 10).trans rfl
                      have ht11 := (blk_cell HT11.out 11).trans rfl
                      have hu0 := one_cell HU11.out
                      go_wp2_with fail
                      refine (tree_Read.calls k At ct u _ 0 16384 D 0 _ (Kd.C_below HCT.out (by repeat (first | exact HY11.out | apply below_alloc | apply pw_below_drewN | apply below_drew1 | apply below_drew))) HCC.out HR2'.out).mono ?_
                      rintro e w12 ⟨v12, rfl, hR, hb⟩
                      obtain ⟨A12, c12, rfl, hc12, hC12⟩ := Kd.R_reads hR
                      have HE12 := Aside0.mk hc12
                      have HC12' := Aside0.mk hC12
                      have HC11' := Aside0.mk (Kd.C_below HC11.out hb)
                      have HS12 := Aside0.mk (blk_below (by repeat (first | exact HS11.out | apply blk_drewN | apply blk_alloc | apply blk_drew)) hb)
                      have HT12 := Aside0.mk (blk_below (by repeat (first | exact HT11.out | apply blk_drewN | apply blk_alloc | apply blk_drew)) hb)
                      have HU12 := Aside0.mk (blk_below (by repeat (first | exact HU11.out | apply blk_drewN | apply blk_alloc | apply blk_drew)) hb)
                      have HB12 := Aside0.mk (below_step (by repeat (first | exact HB11.out | apply below_alloc | apply pw_below_drewN | apply below_drew1 | apply below_drew)) hb)
                      have HY12 := Aside0.mk (below_step (by repeat (first | exact HY11.out | apply below_alloc | apply pw_below_drewN | apply below_drew1 | apply below_drew)) hb)
                      clear hR hb hc12 hC12 HC11
                      clear hs0 hs1 ht1 ht10 ht11 hu0
                      obtain ⟨hs0, hs1⟩ := two_cells HS12.out
                      have ht1 := (blk_cell HT12.out 1).trans rfl
                      have ht10 := (blk_cell HT12.out 10).trans rfl
                      have ht11 := (blk_cell HT12.out 11).trans rfl
                      have hu0 := one_cell HU12.out
                      go_wp2_with (first | (go_at_call 10; refine (t_num _ _).mono ?_; rintro e w' ⟨rfl, rfl⟩))
                      refine (gangwayref0_EqBytes.calls k A11 c11 (rd_T38 l1 n).f10 X y (rd_T38 l1 n).f10 true _ HC11'.out HE11.out (Kd.C_below HXC.out HB12.out) HXY.out HEQ.out).mono ?_
                      rintro e w13 ⟨rfl, nd3, hw13⟩
                      have hb : Below w12.heap.size w12 w13 := hw13 ▸ pw_below_drewN (Below.refl _ _) nd3
                      have HC12 := Aside0.mk (Kd.C_below HC12'.out hb)
                      have HS13 := Aside0.mk (blk_below (by repeat (first | exact HS12.out | apply blk_drewN | apply blk_alloc | apply blk_drew)) hb)
                      have HT13 := Aside0.mk (blk_below (by repeat (first | exact HT12.out | apply blk_drewN | apply blk_alloc | apply blk_drew)) hb)
                      have HU13 := Aside0.mk (blk_below (by repeat (first | exact HU12.out | apply blk_drewN | apply blk_alloc | apply blk_drew)) hb)
                      have HB13 := Aside0.mk (below_step (by repeat (first | exact HB12.out | apply below_alloc | apply pw_below_drewN | apply below_drew1 | apply below_drew)) hb)
                      have HY13 := Aside0.mk (below_step (by repeat (first | exact HY12.out | apply below_alloc | apply pw_below_drewN | apply below_drew1 | apply below_drew)) hb)
                      clear hb hw13 HC12' HC11'
                      clear hs0 hs1 ht1 ht10 ht11 hu0
                      obtain ⟨hs0, hs1⟩ := two_cells HS13.out
                      have ht1 := (blk_cell HT13.out 1).trans rfl
                      have ht10 := (blk_cell HT13.out 10).trans rfl
                      have ht11 := (blk_cell HT13.out 11).trans rfl
                      have hu0 := one_cell HU13.out
                      have hmx := HMX.out
                      go_wp2
                      all_goals
                        clear hmx
                        go_loopw [13] (fun v13 w' => ∃ j : Nat, j ≤ D.length ∧ v13 = .int .i64 j ∧ w' = w13) (fun v13 _ => D.length - (intOf v13).toNat)
                        case atStart => exact ⟨0, Nat.zero_le _, rfl, rfl⟩
                        case round =>
                          obtain ⟨j, hj, rfl, rfl⟩ := hrel
                          have hdm := HDM.out
                          by_cases hjD : j < D.length
                          · have d1 : decide (j < D.length) = true := decide_eq_true hjD
                            by_cases hge : at_ ≤ (j : Int)
                            · have g1 : decide ((j : Int) ≥ at_) = true := decide_eq_true hge
                              have g1' : decide (at_ ≤ (j : Int)) = true := decide_eq_true hge
                              by_cases hlt2 : (j : Int) < at_ + ((rd_T38 l1 n).f10.length : Int)
                              · have g2 : decide ((j : Int) < at_ + ((rd_T38 l1 n).f10.length : Int)) = true := decide_eq_true hlt2
                                go_wp2
                                go_roundw
                                case rel => exact ⟨j + 1, by omega, by go_num, by first | rfl | trivial⟩
                                case measure => simp [intOf]; omega
                              · have g2 : decide ((j : Int) < at_ + ((rd_T38 l1 n).f10.length : Int)) = false := decide_eq_false hlt2
                                have hin : ¬ (at_.toNat ≤ j ∧ j < at_.toNat + (rd_T38 l1 n).f10.length) := by omega
                                clear hlt2 hge
                                obtain ⟨ad12, cz, eD, _, hK, hcz⟩ := Kd.C_get HC12.out (0 : Int) (j : Int) (by omega) (by omega)
                                rw [Int.toNat_natCast] at hK hcz
                                have hK' : cz = [.int .u8 (D.getD j 0)] := hK
                                subst hK'
                                subst eD
                                obtain ⟨x, hx⟩ : ∃ x, x = D.getD j 0 := ⟨_, rfl⟩
                                rw [← hx] at hcz
                                have hxc : wr.cell? (ad12.add (j * 1)) = some (.int .u8 x) := hcz 0 _ rfl
                                rw [Nat.mul_one] at hxc
                                have HXD := Aside0.mk hx
                                clear hcz hK hx
                                by_cases hjo : j < (rd_T45 l0 (rd_T38 l1 n).f1).f1.length
                                · have hval : x = rd (rd_T45 l0 (rd_T38 l1 n).f1).f1 (j : Int) := by
                                    have := HDD.out j hjD hin
                                    rw [if_pos hjo] at this
                                    have e1 : rd D (j : Int) = D.getD j 0 := by unfold rd; rw [Int.toNat_natCast]
                                    exact HXD.out.trans (e1.symm.trans this)
                                  obtain ⟨adO, co, eO, _, hK, hco⟩ := Kd.C_get HCD.out (0 : Int) (j : Int) (by omega) (by omega)
                                  rw [Int.toNat_natCast] at hK hco
                                  have hK' : co = [.int .u8 ((rd_T45 l0 (rd_T38 l1 n).f1).f1.getD j 0)] := hK
                                  subst hK'
                                  subst eO
                                  have hxo : wr.cell? (adO.add (j * 1)) = some (.int .u8 x) := by
                                    have h1 := hco 0 _ rfl
                                    have h2 := (HB13.out.cell (World.block_lt_of_cell? _ _ h1)).trans h1
                                    rw [hval]; unfold rd; rw [Int.toNat_natCast]; exact h2
                                  rw [Nat.mul_one] at hxo
                                  have o1 : decide (j < (rd_T45 l0 (rd_T38 l1 n).f1).f1.length) = true := decide_eq_true hjo
                                  have o2 : decide ((j : Int) < ((rd_T45 l0 (rd_T38 l1 n).f1).f1.length : Int)) = true := decide_eq_true (by omega)
                                  clear hco hK hval
                                  go_wp2
                                  go_roundw
                                  case rel => exact ⟨j + 1, by omega, by go_num, by first | rfl | trivial⟩
                                  case measure => simp [intOf]; omega
                                · have hval : x = 0 := by
                                    have := HDD.out j hjD hin
                                    rw [if_neg hjo] at this
                                    have e1 : rd D (j : Int) = D.getD j 0 := by unfold rd; rw [Int.toNat_natCast]
                                    exact HXD.out.trans (e1.symm.trans this)
                                  subst hval
                                  have o1 : decide (j < (rd_T45 l0 (rd_T38 l1 n).f1).f1.length) = false := decide_eq_false hjo
                                  have o2 : decide ((j : Int) < ((rd_T45 l0 (rd_T38 l1 n).f1).f1.length : Int)) = false := decide_eq_false (by omega)
                                  clear hjo
                                  go_wp2
                                  go_roundw
                                  case rel => exact ⟨j + 1, by omega, by go_num, by first | rfl | trivial⟩
                                  case measure => simp [intOf]; omega
                            · have g1 : decide ((j : Int) ≥ at_) = false := decide_eq_false hge
                              have g1' : decide (at_ ≤ (j : Int)) = false := decide_eq_false hge
                              have hin : ¬ (at_.toNat ≤ j ∧ j < at_.toNat + (rd_T38 l1 n).f10.length) := by omega
                              clear hge
                              obtain ⟨ad12, cz, eD, _, hK, hcz⟩ := Kd.C_get HC12.out (0 : Int) (j : Int) (by omega) (by omega)
                              rw [Int.toNat_natCast] at hK hcz
                              have hK' : cz = [.int .u8 (D.getD j 0)] := hK
                              subst hK'
                              subst eD
                              obtain ⟨x, hx⟩ : ∃ x, x = D.getD j 0 := ⟨_, rfl⟩
                              rw [← hx] at hcz
                              have hxc : wr.cell? (ad12.add (j * 1)) = some (.int .u8 x) := hcz 0 _ rfl
                              rw [Nat.mul_one] at hxc
                              have HXD := Aside0.mk hx
                              clear hcz hK hx
                              by_cases hjo : j < (rd_T45 l0 (rd_T38 l1 n).f1).f1.length
                              · have hval : x = rd (rd_T45 l0 (rd_T38 l1 n).f1).f1 (j : Int) := by
                                  have := HDD.out j hjD hin
                                  rw [if_pos hjo] at this
                                  have e1 : rd D (j : Int) = D.getD j 0 := by unfold rd; rw [Int.toNat_natCast]
                                  exact HXD.out.trans (e1.symm.trans this)
                                obtain ⟨adO, co, eO, _, hK, hco⟩ := Kd.C_get HCD.out (0 : Int) (j : Int) (by omega) (by omega)
                                rw [Int.toNat_natCast] at hK hco
                                have hK' : co = [.int .u8 ((rd_T45 l0 (rd_T38 l1 n).f1).f1.getD j 0)] := hK
                                subst hK'
                                subst eO
                                have hxo : wr.cell? (adO.add (j * 1)) = some (.int .u8 x) := by
                                  have h1 := hco 0 _ rfl
                                  have h2 := (HB13.out.cell (World.block_lt_of_cell? _ _ h1)).trans h1
                                  rw [hval]; unfold rd; rw [Int.toNat_natCast]; exact h2
                                rw [Nat.mul_one] at hxo
                                have o1 : decide (j < (rd_T45 l0 (rd_T38 l1 n).f1).f1.length) = true := decide_eq_true hjo
                                have o2 : decide ((j : Int) < ((rd_T45 l0 (rd_T38 l1 n).f1).f1.length : Int)) = true := decide_eq_true (by omega)
                                clear hco hK hval
                                go_wp2
                                go_roundw
                                case rel => exact ⟨j + 1, by omega, by go_num, by first | rfl | trivial⟩
                                case measure => simp [intOf]; omega
                              · have hval : x = 0 := by
                                  have := HDD.out j hjD hin
                                  rw [if_neg hjo] at this
                                  have e1 : rd D (j : Int) = D.getD j 0 := by unfold rd; rw [Int.toNat_natCast]
                                  exact HXD.out.trans (e1.symm.trans this)
                                subst hval
                                have o1 : decide (j < (rd_T45 l0 (rd_T38 l1 n).f1).f1.length) = false := decide_eq_false hjo
                                have o2 : decide ((j : Int) < ((rd_T45 l0 (rd_T38 l1 n).f1).f1.length : Int)) = false := decide_eq_false (by omega)
                                clear hjo
                                go_wp2
                                go_roundw
                                case rel => exact ⟨j + 1, by omega, by go_num, by first | rfl | trivial⟩
                                case measure => simp [intOf]; omega
                          · have d1 : decide (j < D.length) = false := decide_eq_false hjD
                            clear hjD
                            go_wp2_with fail
                            refine (tree_Cut.calls k At ct u _ _ _ v 0 _ (Kd.C_below HCT.out HY13.out) HCC.out HCUT.out).mono ?_
                            rintro e w14 ⟨v14, rfl, hS, hb⟩
                            obtain ⟨A14, c14, rfl, hc14, hC14⟩ := Kd.S_reads hS
                            have HE14 := Aside0.mk hc14
                            have HC14 := Aside0.mk hC14
                            have HS14 := Aside0.mk (blk_below (by repeat (first | exact HS13.out | apply blk_drewN | apply blk_alloc | apply blk_drew)) hb)
                            have HT14 := Aside0.mk (blk_below (by repeat (first | exact HT13.out | apply blk_drewN | apply blk_alloc | apply blk_drew)) hb)
                            have HU14 := Aside0.mk (blk_below (by repeat (first | exact HU13.out | apply blk_drewN | apply blk_alloc | apply blk_drew)) hb)
                            have HB14 := Aside0.mk (below_step (by repeat (first | exact HB13.out | apply below_alloc | apply pw_below_drewN | apply below_drew1 | apply below_drew)) hb)
                            have HY14 := Aside0.mk (below_step (by repeat (first | exact HY13.out | apply below_alloc | apply pw_below_drewN | apply below_drew1 | apply below_drew)) hb)
                            clear hS hb hc14 hC14
                            clear hs0 hs1 ht1 ht10 ht11 hu0
                            obtain ⟨hs0, hs1⟩ := two_cells HS14.out
                            have ht1 := (blk_cell HT14.out 1).trans rfl
                            have ht10 := (blk_cell HT14.out 10).trans rfl
                            have ht11 := (blk_cell HT14.out 11).trans rfl
                            have hu0 := one_cell HU14.out
                            have hu1 := one_cell (blk_alloc HU14.out (.cells #[.slice A14 v.length c14] 24))
                            go_wp2_with (first | (go_at_call 10; refine (t_num _ _).mono ?_; rintro e w' ⟨rfl, rfl⟩))
                            refine (gangwayref0_EqTree.calls k A14 c14 v At ct u true _ (Kd.C_alloc HC14.out _) HE14.out (Kd.C_below HCT.out (below_alloc HY14.out _)) HCC.out HEQT.out).mono ?_
                            rintro e w15 ⟨rfl, hb⟩
                            have HS15 := Aside0.mk (blk_below (blk_alloc HS14.out _) hb)
                            have HB15 := Aside0.mk (below_step (below_alloc HB14.out _) hb)
                            clear hb
                            go_wp2
                            go_roundw
                            case rel => exact ⟨n + 1, by omega, by omega, by go_num, HS15, HB15⟩
                            case measure => simp [intOf]; omega
                  · rw [if_neg hfit] at hle
                    subst hle
                    go_quiet (first | (go_at_call 10; (with_reducible refine (gangwaylaw13_num.calls _ _ _ (HNUM.out _)).mono ?_); rintro e w' ⟨rfl, ⟨nd, rfl⟩⟩; (try first | exact ⟨rfl, _, World.drewN_drewN _ _ _⟩ | exact ⟨rfl, _, Eq.trans (World.drewN_drewN _ _ _) (congrArg (World.drewN _) (Nat.add_assoc _ _ _))⟩)))
                    go_wp2_with (first | (go_at_call 10; refine (t_num _ _).mono ?_; rintro e w' ⟨rfl, rfl⟩))
                    go_roundw
                    case rel => exact ⟨n + 1, by omega, by omega, by go_num, ⟨(by repeat (first | exact HS9.out | apply blk_drewN | apply blk_alloc | apply blk_drew))⟩, ⟨(by repeat (first | exact HB9.out | apply below_alloc | apply pw_below_drewN | apply below_drew1 | apply below_drew))⟩⟩
                    case measure => simp [intOf]; omega
              · have m0 : ((rd_T45 l0 (rd_T38 l1 n).f1).f0 == 1) = false := by simpa using k1
                have m1 : ((rd_T45 l0 (rd_T38 l1 n).f1).f0 != 1) = true := by simpa using k1
                · go_wp2_with (first | (go_at_call 19; refine (gangwayref13_Is.calls _ c0 l0 _ _ _ (Kd.C_below HR0.out HB7.out) HC0.out HIS.out).mono ?_; rintro e w5 ⟨rfl, hb⟩; have HBn := Aside0.mk (below_step HB7.out hb); have HSn := Aside0.mk (blk_below HS7.out hb); have HTn := Aside0.mk (blk_below HT7.out hb); clear hb hs0 hs1 ht1 ht8 ht10 ht11; obtain ⟨hs0, hs1⟩ := two_cells HSn.out; have ht1 := (blk_cell HTn.out 1).trans rfl; have ht8 := (blk_cell HTn.out 8).trans rfl; have ht10 := (blk_cell HTn.out 10).trans rfl; have ht11 := (blk_cell HTn.out 11).trans rfl; have hq0 := (HBn.out.cell (World.block_lt_of_cell? _ _ HQ0.out)).trans HQ0.out; have hq1 := (HBn.out.cell (World.block_lt_of_cell? _ _ HQ1.out)).trans HQ1.out) | (go_at_call 20; refine (gangwayref0_Time.calls _ _ _ HTI.out).mono ?_; rintro e w6 ⟨rfl, ⟨nd, rfl⟩⟩))
                  go_roundw
                  case rel => exact ⟨n + 1, by omega, by omega, by go_num, ⟨(by repeat (first | exact HSn.out | apply blk_drewN | apply blk_alloc | apply blk_drew))⟩, ⟨(by repeat (first | exact HBn.out | apply below_alloc | apply pw_below_drewN | apply below_drew1 | apply below_drew))⟩⟩
                  case measure => simp [intOf]; omega
          · go_wp2_with (first | (go_at_call 16; refine (gangwaylaw13_wakes.calls k true _ HWK.out).mono ?_; rintro e w9 ⟨rfl, hb⟩; have HXn := Aside0.mk (below_step (by repeat (first | exact HB.out | apply below_alloc | apply pw_below_drewN | apply below_drew1 | apply below_drew)) hb); clear hb))
            go_ret
            exact ⟨rfl, HXn.out⟩
        · go_wp2_with (first | (go_at_call 16; refine (gangwaylaw13_wakes.calls k true _ HWK.out).mono ?_; rintro e w9 ⟨rfl, hb⟩; have HXn := Aside0.mk (below_step (by repeat (first | exact HB.out | apply below_alloc | apply pw_below_drewN | apply below_drew1 | apply below_drew)) hb); clear hb))
          go_ret
          exact ⟨rfl, HXn.out⟩

end Go.Proofs.Ytjghephnjkffcaa.PCk
