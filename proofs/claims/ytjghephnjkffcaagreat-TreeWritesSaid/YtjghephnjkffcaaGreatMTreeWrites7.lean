/- Parts of one proof, merged by a program of this repo: walks over the given program and plain facts. -/
import Derived.Test.YtjghephnjkffcaaGreatMTreeWrites4
import Derived.Test.YtjghephnjkffcaaGreatMTreeWrites2
import Derived.Deep.DrawnRows
import Derived.Deep.RegionHeld3
import Derived.Test.YtjghephnjkffcaaGreatMTreeWrites5
import Derived.Test.YtjghephnjkffcaaGreatMTreeWrites6
namespace Go.Proofs.YtjghephnjkffcaaGreat.PAll
open Go.RowKit Go.Proofs.YtjghephnjkffcaaGreatW.PrintWords Go.Proofs.YtjghephnjkffcaaGreatW.PrintLast Go.Proofs.YtjghephnjkffcaaGreatW.PrintMore
attribute [local go_sem] zb2 zb0 zcn zcm zbF zbE zb1 zbZ
set_option linter.unusedVariables false
set_option linter.unusedSimpArgs false
mutual
def zaR.l0 : Nat → List Int → List (S40) → Int → Int → Option (List Int)
 | 0, _, _, _, _ => none
 | k + 1, x3, x13, x14, x15 => if x15 < x14 then (if 0 ≤ x15 then (if x15 < (x13.length : Int) then (zaR.l1 k x3 x13 x14 x15 ((zah x13 x15).f2) (((zah x13 x15).f2).length : Int) 0) else (none)) else (none)) else (some x3)
def zaR.l1 : Nat → List Int → List (S40) → Int → Int → List (S50) → Int → Int → Option (List Int)
 | 0, _, _, _, _, _, _, _ => none
 | k + 1, x3, x13, x14, x15, x20, x21, x22 => if x22 < x21 then (if 0 ≤ x22 then (if x22 < (x20.length : Int) then (if 0 ≤ ((zau x20 x22).f1) then (if ((zau x20 x22).f1) < (x3.length : Int) then (zaR.l1 k (x3.set (((zau x20 x22).f1) : Int).toNat (wrap64 ((rd x3 ((zau x20 x22).f1)) + 1))) x13 x14 x15 x20 x21 (wrap64 (x22 + 1))) else (none)) else (none)) else (none)) else (none)) else (zaR.l0 k x3 x13 x14 (wrap64 (x15 + 1)))
end
def zaR.f (k : Nat) (l0_0 : List (S40)) : Option (List Int) := if 0 ≤ (l0_0.length : Int) then (if ((l0_0.length : Int) : Int).toNat ≤ 35184372088832 then (zaR.l0 k (List.replicate ((l0_0.length : Int) : Int).toNat 0) l0_0 (l0_0.length : Int) 0) else (none)) else (none)
theorem zaR.mono_l : ∀ k, (∀ y0 y1 y2 y3, LeO (zaR.l0 k y0 y1 y2 y3) (zaR.l0 (k + 1) y0 y1 y2 y3)) ∧ (∀ y0 y1 y2 y3 y4 y5 y6, LeO (zaR.l1 k y0 y1 y2 y3 y4 y5 y6) (zaR.l1 (k + 1) y0 y1 y2 y3 y4 y5 y6))
 | 0 => ⟨fun _ _ _ _ r h => by simp [zaR.l0] at h, fun _ _ _ _ _ _ _ r h => by simp [zaR.l1] at h⟩
 | k + 1 => by
  obtain ⟨ih0, ih1⟩ := zaR.mono_l k
  refine ⟨?_, ?_⟩
  ·intro y0 y1 y2 y3
   unfold zaR.l0
   repeat' first
   | (with_reducible exact ih0 _ _ _ _)
   | (with_reducible exact ih1 _ _ _ _ _ _ _)
   | (with_reducible exact LeO.refl _)
   | (with_reducible exact LeO.none _)
   | (with_reducible refine LeO.ite ?_ ?_)
   | (with_reducible refine LeO.bind ?_ (fun _ => ?_))
   | exact ih0 _ _ _ _
   | exact ih1 _ _ _ _ _ _ _
   | exact LeO.none _
   | refine LeO.ite ?_ ?_
   | refine LeO.bind ?_ (fun _ => ?_)
  ·intro y0 y1 y2 y3 y4 y5 y6
   unfold zaR.l1
   repeat' first
   | (with_reducible exact ih0 _ _ _ _)
   | (with_reducible exact ih1 _ _ _ _ _ _ _)
   | (with_reducible exact LeO.refl _)
   | (with_reducible exact LeO.none _)
   | (with_reducible refine LeO.ite ?_ ?_)
   | (with_reducible refine LeO.bind ?_ (fun _ => ?_))
   | exact ih0 _ _ _ _
   | exact ih1 _ _ _ _ _ _ _
   | exact LeO.none _
   | refine LeO.ite ?_ ?_
   | refine LeO.bind ?_ (fun _ => ?_)
theorem zaR.mono : ∀ a0 k, LeO (zaR.f k a0) (zaR.f (k + 1) a0) := by
 intro a0 k
 obtain ⟨ih0, ih1⟩ := zaR.mono_l k
 unfold zaR.f
 repeat' first
   | (with_reducible exact ih0 _ _ _ _)
   | (with_reducible exact ih1 _ _ _ _ _ _ _)
   | (with_reducible exact LeO.refl _)
   | (with_reducible exact LeO.none _)
   | (with_reducible refine LeO.ite ?_ ?_)
   | (with_reducible refine LeO.bind ?_ (fun _ => ?_))
   | exact ih0 _ _ _ _
   | exact ih1 _ _ _ _ _ _ _
   | exact LeO.none _
   | refine LeO.ite ?_ ?_
   | refine LeO.bind ?_ (fun _ => ?_)
set_option maxHeartbeats 8000000 in
set_option maxRecDepth 100000 in
theorem zaR.calls (k : Nat) (A0_0 : Option Addr) (c0_0 : Nat) (l0_0 : List (S40)) (r : List Int) (w : World) (hr0_0 : Kd.C k40 w A0_0 l0_0.length l0_0) (hc0_0 : l0_0.length ≤ c0_0) (h : zaR.f k l0_0 = some r) :
  Calls Tryz.prog 61 #[.agg #[.slice A0_0 l0_0.length c0_0]] w fun e w' => ∃ v0_ : Value, e = .returned (v0_) ∧ Kd.R (Kd.int .i64) 3 w' w.heap.size (fun _ => True) v0_ r ∧ Below w.heap.size w w' := by
 have hu24 := Tryz.underlying24
 have hu40 := Tryz.underlying40
 have hu50 := Tryz.underlying50
 have HR0_0 := zaa.mk hr0_0
 have HC0_0 := zaa.mk hc0_0
 clear hr0_0 hc0_0
 have HB := zaa.mk (Below.refl w.heap.size w)
 have H : (if 0 ≤ (l0_0.length : Int) then (if ((l0_0.length : Int) : Int).toNat ≤ 35184372088832 then (zaR.l0 k (List.replicate ((l0_0.length : Int) : Int).toNat 0) l0_0 (l0_0.length : Int) 0) else (none)) else (none)) = some r := h
 clear h
 by_cases c2 : 0 ≤ (l0_0.length : Int)
 ·rw [if_pos c2] at H
  have c2b0 := eq_true c2
  have c2b1 : decide (0 ≤ (l0_0.length : Int)) = true := decide_eq_true c2
  clear c2
  by_cases c3 : ((l0_0.length : Int) : Int).toNat ≤ 35184372088832
  ·rw [if_pos c3] at H
   have c3b0 := eq_true c3
   have c3b1 : decide (((l0_0.length : Int) : Int).toNat ≤ 35184372088832) = true := decide_eq_true c3
   clear c3
   obtain ⟨y200, hy200⟩ : ∃ y_ : List Int, y_ = (List.replicate ((l0_0.length : Int) : Int).toNat 0) := ⟨_, rfl⟩
   replace H : (zaR.l0 k y200 l0_0 (l0_0.length : Int) 0) = some r := by first | (rw [hy200]; with_reducible exact H) | (have H2_ := (Option.bind_some _ _).symm.trans H; rw [hy200]; with_reducible exact H2_) | (have H2_ := (Option.bind_some _ _).symm.trans H; with_reducible exact H2_) | with_reducible exact H | (rw [hy200]; exact H) | exact H
   have Ny200 := zaa.mk hy200
   clear hy200
   have H' := zaa.mk H
   clear H
   go_enter Tryz.func61, Tryz.ntmps61
   go_wp2_with (first | ((with_reducible refine zaS (N := 1) rfl ?_); refine zaG ?hg (N := 1) ?hd (cs := #[.slice A0_0 l0_0.length c0_0]) (t := 24) ?hr ?_; (case hd => rfl); (case hg => rfl); (case hr => first | (go_simp; done) | (go_simp; rfl)); intro gb199 hg w4 hbox hb; have n0_ := zaa.mk (zam (by repeat (first | (with_reducible first | exact HB.out | apply zad | apply zab | apply zae) | exact HB.out)) hb); have n1_ := zaa.mk (hbox); have n2_ := zaa.mk ((by rw [hg]; exact (zar (by repeat (first | (with_reducible first | exact HB.out | apply zad | apply zab | apply zae) | exact HB.out))) : w.heap.size ≤ gb199)); have n3_ := zaa.mk ((by rw [hg]; exact (zar (by repeat (first | (with_reducible first | exact HB.out | apply zad | apply zab | apply zae) | exact HB.out))) : w.heap.size ≤ gb199)); clear HB; have HB := n0_; have BK199 := n1_; have GW199 := n2_; have GE199 := n3_; clear n0_ n1_ n2_ n3_; clear hb hbox hg; have hcz5_0 : w4.cell? ⟨gb199, 0, none⟩ = some (.slice A0_0 l0_0.length c0_0) := (zac BK199.out 0).trans rfl; have hfz5_0 := zaf BK199.out 0) | ((with_reducible refine zaS (N := 11) rfl ?_); refine Kd.R_make (Kd.int .i64) _ 3 rfl (N := 11) rfl 95 _ _ rfl (l0_0.length : Int) rfl rfl Tryz.underlying95 (.int .i64 0) 8 info3 rfl (by decide) (by omega) 0 (ok := fun _ => True) (okp := fun _ => True) rfl (fun _ hk => hk) trivial (of_decide_eq_true (by first | (with_reducible assumption) | assumption)) (Nat.le_trans (Nat.mul_le_mul_right _ (of_decide_eq_true (by first | (with_reducible assumption) | assumption) : (l0_0.length : Int).toNat ≤ 35184372088832)) (by omega)) (Below.refl _ _) (Nat.le_refl _) ?_; intro v201 w6 ho7 hb hg_ hnew_; clear hg_ hnew_; (first | rw [← Ny200.out] at ho7 | (simp only [Int.reduceToNat] at ho7; rw [← Ny200.out] at ho7)); have n0_ := zaa.mk (Kd.zcw ho7 (zar (by repeat (first | (with_reducible first | exact HB.out | apply zad | apply zab | apply zae | refine zal ?_ GE199.out) | exact HB.out)))); have n1_ := zaa.mk (zan (g := gb199) (o := .cells #[.slice A0_0 l0_0.length c0_0] 24 (0, 0)) (by (with_reducible repeat (first | refine zaj ?_ _ | refine zak ?_ | refine zai ?_ _)); exact BK199.out) hb); have n2_ := zaa.mk (zam (by repeat (first | (with_reducible first | exact HB.out | apply zad | apply zab | apply zae | refine zal ?_ GE199.out) | exact HB.out)) hb); clear BK199; clear HB; have HO202 := n0_; have BK199 := n1_; have HB := n2_; clear n0_ n1_ n2_; clear hb ho7; have hcz8_0 : w6.cell? ⟨gb199, 0, none⟩ = some (.slice A0_0 l0_0.length c0_0) := (zac BK199.out 0).trans rfl; have hfz8_0 := zaf BK199.out 0))
   go_loopg [15] k (fun kq v15 w' => ∃ (x3_1 : List Int) (x15_1 : Int), v15 = .int .i64 x15_1 ∧ zaa (zaR.l0 kq x3_1 l0_0 (l0_0.length : Int) x15_1 = some r) ∧ zaa (kq ≤ k) ∧ zaa (Kd.R (Kd.int .i64) 3 w' w.heap.size (fun _ => True) v201 x3_1) ∧ zaa (w'.heap[gb199]? = some (.cells #[(.slice A0_0 l0_0.length c0_0)] 24 (0, 0))) ∧ zaa (Below w.heap.size w w'))
   case atStart => exact ⟨(y200), (0), (by first | rfl | (simp; done) | (simp [*]; done)), H', ⟨Nat.le_refl _⟩, ⟨by (with_reducible repeat (first | apply Kd.zbA | apply Kd.zbH | apply Kd.zca)); exact HO202.out⟩, ⟨by (with_reducible repeat (first | refine zaj ?_ _ | refine zak ?_ | refine zai ?_ _)); exact BK199.out⟩, ⟨by repeat (first | (with_reducible first | exact HB.out | apply zad | apply zab | apply zae | refine zal ?_ GE199.out) | exact HB.out)⟩⟩
   case round =>
    clear H'
    try clear c2
    try clear c2b0
    try clear c2b1
    try clear c3
    try clear c3b0
    try clear c3b1
    try clear hcz5_0
    try clear hcz8_0
    try clear hfz5_0
    try clear hfz8_0
    obtain ⟨x3_1, x15_1, rfl, HA, HK1, HO_3, BK199, HB⟩ := hrel
    cases gk with
    | zero => exact absurd HA.out (by simp [zaR.l0])
    | succ k1 =>
     have H := HA.out
     clear HA
     simp only [zaR.l0] at H
     by_cases c9 : x15_1 < (l0_0.length : Int)
     ·rw [if_pos c9] at H
      have c9b0 : decide (x15_1 < (l0_0.length : Int)) = true := decide_eq_true c9
      clear c9
      by_cases c10 : 0 ≤ x15_1
      ·rw [if_pos c10] at H
       have c10b0 : decide (0 ≤ x15_1) = true := decide_eq_true c10
       clear c10
       by_cases c11 : x15_1 < (l0_0.length : Int)
       ·rw [if_pos c11] at H
        have c11b0 : decide (x15_1 < (l0_0.length : Int)) = true := decide_eq_true c11
        clear c11
        have H' := zaa.mk H
        clear H
        have p203 : 0 ≤ (x15_1 : Int) := of_decide_eq_true (by first | (with_reducible assumption) | assumption)
        have q203 : x15_1 < (l0_0.length : Int) := of_decide_eq_true (by first | (with_reducible assumption) | assumption)
        obtain ⟨ad203, A203_1, c203_1, A203_2, c203_2, e203, hx203_0, hx203_1, hx203_2, hx203_3, hx203_4, hx203_5, hl203_1, hi203_1, hl203_2, hi203_2⟩ := zbc HR0_0.out x15_1 p203 q203
        cases e203
        replace hx203_0 := (HB.out.cell (World.block_lt_of_cell? w _ hx203_0)).trans hx203_0
        replace hx203_1 := (HB.out.cell (World.block_lt_of_cell? w _ hx203_1)).trans hx203_1
        replace hx203_2 := (HB.out.cell (World.block_lt_of_cell? w _ hx203_2)).trans hx203_2
        replace hx203_3 := (HB.out.cell (World.block_lt_of_cell? w _ hx203_3)).trans hx203_3
        replace hx203_4 := (HB.out.cell (World.block_lt_of_cell? w _ hx203_4)).trans hx203_4
        replace hx203_5 := (HB.out.cell (World.block_lt_of_cell? w _ hx203_5)).trans hx203_5
        have HR203_1 := zaa.mk hi203_1
        have HC203_1 := zaa.mk hl203_1
        clear hi203_1 hl203_1
        have HR203_2 := zaa.mk hi203_2
        have HC203_2 := zaa.mk hl203_2
        clear hi203_2 hl203_2
        replace p203 := eq_true p203
        replace q203 := eq_true q203
        go_wp2_with (first | ((with_reducible refine zaS (N := 5) rfl ?_); refine zaG ?hg (N := 5) ?hd (cs := #[.int .i64 0, .slice none 0 0, .slice none 0 0, .string (⟨#[]⟩ : ByteArray), .int .i64 0, .int .i64 0]) (t := 40) ?hr ?_; (case hd => rfl); (case hg => rfl); (case hr => first | (go_simp; done) | (go_simp; rfl)); intro gb204 hg w12 hbox hb; have n0_ := zaa.mk (Kd.zcj (by (with_reducible repeat (first | apply Kd.zbA | apply Kd.zbH | apply Kd.zca)); exact HO_3.out) hb); have n1_ := zaa.mk (zan (g := gb199) (o := .cells #[.slice (some ad203) l0_0.length c0_0] 24 (0, 0)) (by (with_reducible repeat (first | refine zaj ?_ _ | refine zak ?_ | refine zai ?_ _)); exact BK199.out) hb); have n2_ := zaa.mk (zam (by repeat (first | (with_reducible first | exact HB.out | apply zad | apply zab | apply zae | refine zal ?_ GE199.out) | exact HB.out)) hb); have n3_ := zaa.mk (hbox); have n4_ := zaa.mk ((by rw [hg]; exact (zar (by repeat (first | (with_reducible first | exact HB.out | apply zad | apply zab | apply zae | refine zal ?_ GE199.out) | exact HB.out))) : w.heap.size ≤ gb204)); have n5_ := zaa.mk ((by rw [hg]; exact (zar (by repeat (first | (with_reducible first | exact HB.out | apply zad | apply zab | apply zae | refine zal ?_ GE199.out) | exact HB.out))) : w.heap.size ≤ gb204)); have n6_ := zaa.mk ((by rw [hg]; exact Nat.ne_of_lt (zaO (g := gb199) (o := .cells #[.slice (some ad203) l0_0.length c0_0] 24 (0, 0)) (by (with_reducible repeat (first | refine zaj ?_ _ | refine zak ?_ | refine zai ?_ _)); exact BK199.out)) : gb199 ≠ gb204)); have n7_ := zaa.mk ((by rw [hg]; exact Nat.ne_of_gt (zaO (g := gb199) (o := .cells #[.slice (some ad203) l0_0.length c0_0] 24 (0, 0)) (by (with_reducible repeat (first | refine zaj ?_ _ | refine zak ?_ | refine zai ?_ _)); exact BK199.out)) : gb204 ≠ gb199)); clear HO_3; clear BK199; clear HB; have HO_3 := n0_; have BK199 := n1_; have HB := n2_; have BK204 := n3_; have GW204 := n4_; have GE204 := n5_; have NB199_204 := n6_; have NB204_199 := n7_; clear n0_ n1_ n2_ n3_ n4_ n5_ n6_ n7_; clear hb hbox hg; have hnb13 := NB204_199.out; have hnc13 := NB199_204.out; have hcz14_0 : w12.cell? ⟨gb204, 0, none⟩ = some (.int .i64 0) := (zac BK204.out 0).trans rfl; have hcz14_1 : w12.cell? ⟨gb204, 1, none⟩ = some (.slice none 0 0) := (zac BK204.out 1).trans rfl; have hcz14_2 : w12.cell? ⟨gb204, 2, none⟩ = some (.slice none 0 0) := (zac BK204.out 2).trans rfl; have hcz14_3 : w12.cell? ⟨gb204, 3, none⟩ = some (.string (⟨#[]⟩ : ByteArray)) := (zac BK204.out 3).trans rfl; have hcz14_4 : w12.cell? ⟨gb204, 4, none⟩ = some (.int .i64 0) := (zac BK204.out 4).trans rfl; have hcz14_5 : w12.cell? ⟨gb204, 5, none⟩ = some (.int .i64 0) := (zac BK204.out 5).trans rfl; have hfz14_0 := zaf BK204.out 0; have hfz14_1 := zaf BK204.out 1; have hfz14_2 := zaf BK204.out 2; have hfz14_3 := zaf BK204.out 3; have hfz14_4 := zaf BK204.out 4; have hfz14_5 := zaf BK204.out 5))
        go_loopg [22] k1 (fun kq v22 w' => ∃ (x3_2 : List Int) (x22_2 : Int), v22 = .int .i64 x22_2 ∧ zaa (zaR.l1 kq x3_2 l0_0 (l0_0.length : Int) x15_1 ((zah l0_0 x15_1).f2) (((zah l0_0 x15_1).f2).length : Int) x22_2 = some r) ∧ zaa (kq ≤ k1) ∧ zaa (Kd.R (Kd.int .i64) 3 w' w.heap.size (fun _ => True) v201 x3_2) ∧ zaa (w'.heap[gb199]? = some (.cells #[(.slice (some ad203) l0_0.length c0_0)] 24 (0, 0))) ∧ zaa (w'.heap[gb204]? = some (.cells #[.int .i64 ((zah l0_0 x15_1).f0), (.slice A203_1 ((zah l0_0 x15_1).f1).length c203_1), (.slice A203_2 ((zah l0_0 x15_1).f2).length c203_2), .string ((zah l0_0 x15_1).f3), .int .i64 ((zah l0_0 x15_1).f4), .int .i64 ((zah l0_0 x15_1).f5)] 40 (0, 0))) ∧ zaa (Below w.heap.size w w'))
        case atStart => exact ⟨(x3_1), (0), (by first | rfl | (simp; done) | (simp [*]; done)), H', ⟨Nat.le_refl _⟩, ⟨by (with_reducible repeat (first | apply Kd.zbA | apply Kd.zbH | apply Kd.zca)); exact Kd.zbj (Kd.R_far (p := ⟨gb204, 5, none⟩) (Kd.R_far (p := ⟨gb204, 4, none⟩) (Kd.R_far (p := ⟨gb204, 3, none⟩) (Kd.R_far (p := ⟨gb204, 2, none⟩) (Kd.R_far (p := ⟨gb204, 1, none⟩) (Kd.R_far (p := ⟨gb204, 0, none⟩) (Kd.zch HO_3.out BK204.out (by decide)) (fun _ hk => hk.2) (.int .i64 ((zah l0_0 x15_1).f0))) (fun _ hk => hk.2) (.slice A203_1 ((zah l0_0 x15_1).f1).length c203_1)) (fun _ hk => hk.2) (.slice A203_2 ((zah l0_0 x15_1).f2).length c203_2)) (fun _ hk => hk.2) (.string ((zah l0_0 x15_1).f3))) (fun _ hk => hk.2) (.int .i64 ((zah l0_0 x15_1).f4))) (fun _ hk => hk.2) (.int .i64 ((zah l0_0 x15_1).f5))) (fun _ hk => trivial)⟩, ⟨by (with_reducible repeat (first | refine zaj ?_ _ | refine zak ?_ | refine zai ?_ _)); refine zaD ?_ NB199_204.out _; (with_reducible repeat (first | refine zaj ?_ _ | refine zak ?_ | refine zai ?_ _)); refine zaD ?_ NB199_204.out _; (with_reducible repeat (first | refine zaj ?_ _ | refine zak ?_ | refine zai ?_ _)); refine zaD ?_ NB199_204.out _; (with_reducible repeat (first | refine zaj ?_ _ | refine zak ?_ | refine zai ?_ _)); refine zaD ?_ NB199_204.out _; (with_reducible repeat (first | refine zaj ?_ _ | refine zak ?_ | refine zai ?_ _)); refine zaD ?_ NB199_204.out _; (with_reducible repeat (first | refine zaj ?_ _ | refine zak ?_ | refine zai ?_ _)); refine zaD ?_ NB199_204.out _; (with_reducible repeat (first | refine zaj ?_ _ | refine zak ?_ | refine zai ?_ _)); exact BK199.out⟩, ⟨by (with_reducible repeat (first | refine zaj ?_ _ | refine zak ?_ | refine zai ?_ _)); refine zaP (cs := #[.int .i64 ((zah l0_0 x15_1).f0), .slice A203_1 ((zah l0_0 x15_1).f1).length c203_1, .slice A203_2 ((zah l0_0 x15_1).f2).length c203_2, .string ((zah l0_0 x15_1).f3), .int .i64 ((zah l0_0 x15_1).f4), .int .i64 0]) ?_ 5 _ rfl; (with_reducible repeat (first | refine zaj ?_ _ | refine zak ?_ | refine zai ?_ _)); refine zaP (cs := #[.int .i64 ((zah l0_0 x15_1).f0), .slice A203_1 ((zah l0_0 x15_1).f1).length c203_1, .slice A203_2 ((zah l0_0 x15_1).f2).length c203_2, .string ((zah l0_0 x15_1).f3), .int .i64 0, .int .i64 0]) ?_ 4 _ rfl; (with_reducible repeat (first | refine zaj ?_ _ | refine zak ?_ | refine zai ?_ _)); refine zaP (cs := #[.int .i64 ((zah l0_0 x15_1).f0), .slice A203_1 ((zah l0_0 x15_1).f1).length c203_1, .slice A203_2 ((zah l0_0 x15_1).f2).length c203_2, .string (⟨#[]⟩ : ByteArray), .int .i64 0, .int .i64 0]) ?_ 3 _ rfl; (with_reducible repeat (first | refine zaj ?_ _ | refine zak ?_ | refine zai ?_ _)); refine zaP (cs := #[.int .i64 ((zah l0_0 x15_1).f0), .slice A203_1 ((zah l0_0 x15_1).f1).length c203_1, .slice none 0 0, .string (⟨#[]⟩ : ByteArray), .int .i64 0, .int .i64 0]) ?_ 2 _ rfl; (with_reducible repeat (first | refine zaj ?_ _ | refine zak ?_ | refine zai ?_ _)); refine zaP (cs := #[.int .i64 ((zah l0_0 x15_1).f0), .slice none 0 0, .slice none 0 0, .string (⟨#[]⟩ : ByteArray), .int .i64 0, .int .i64 0]) ?_ 1 _ rfl; (with_reducible repeat (first | refine zaj ?_ _ | refine zak ?_ | refine zai ?_ _)); refine zaP (cs := #[.int .i64 0, .slice none 0 0, .slice none 0 0, .string (⟨#[]⟩ : ByteArray), .int .i64 0, .int .i64 0]) ?_ 0 _ rfl; (with_reducible repeat (first | refine zaj ?_ _ | refine zak ?_ | refine zai ?_ _)); exact BK204.out⟩, ⟨by repeat (first | (with_reducible first | exact HB.out | apply zad | apply zab | apply zae | refine zal ?_ GE199.out | refine zal ?_ GE204.out) | exact HB.out)⟩⟩
        case round =>
         clear H'
         try clear c2
         try clear c2b0
         try clear c2b1
         try clear c3
         try clear c3b0
         try clear c3b1
         try clear c9
         try clear c9b0
         try clear c10
         try clear c10b0
         try clear c11
         try clear c11b0
         try clear hcz14_0
         try clear hcz14_1
         try clear hcz14_2
         try clear hcz14_3
         try clear hcz14_4
         try clear hcz14_5
         try clear hcz5_0
         try clear hcz8_0
         try clear hfz14_0
         try clear hfz14_1
         try clear hfz14_2
         try clear hfz14_3
         try clear hfz14_4
         try clear hfz14_5
         try clear hfz5_0
         try clear hfz8_0
         try clear hx203_0
         try clear hx203_1
         try clear hx203_2
         try clear hx203_3
         try clear hx203_4
         try clear hx203_5
         try clear p203
         try clear q203
         obtain ⟨x3_2, x22_2, rfl, HA, HK2, HO_3, BK199, BK204, HB⟩ := hrel
         cases gk with
         | zero => exact absurd HA.out (by simp [zaR.l1])
         | succ k2 =>
          have H := HA.out
          clear HA
          simp only [zaR.l1] at H
          by_cases c15 : x22_2 < (((zah l0_0 x15_1).f2).length : Int)
          ·rw [if_pos c15] at H
           have c15b0 : decide (x22_2 < (((zah l0_0 x15_1).f2).length : Int)) = true := decide_eq_true c15
           clear c15
           by_cases c16 : 0 ≤ x22_2
           ·rw [if_pos c16] at H
            have c16b0 : decide (0 ≤ x22_2) = true := decide_eq_true c16
            clear c16
            by_cases c17 : x22_2 < (((zah l0_0 x15_1).f2).length : Int)
            ·rw [if_pos c17] at H
             have c17b0 : decide (x22_2 < (((zah l0_0 x15_1).f2).length : Int)) = true := decide_eq_true c17
             clear c17
             by_cases c18 : 0 ≤ ((zau ((zah l0_0 x15_1).f2) x22_2).f1)
             ·rw [if_pos c18] at H
              have c18b0 : decide (0 ≤ ((zau ((zah l0_0 x15_1).f2) x22_2).f1)) = true := decide_eq_true c18
              clear c18
              by_cases c19 : ((zau ((zah l0_0 x15_1).f2) x22_2).f1) < (x3_2.length : Int)
              ·rw [if_pos c19] at H
               have c19b0 : decide (((zau ((zah l0_0 x15_1).f2) x22_2).f1) < (x3_2.length : Int)) = true := decide_eq_true c19
               clear c19
               obtain ⟨y208, hy208⟩ : ∃ y_ : List Int, y_ = (x3_2.set (((zau ((zah l0_0 x15_1).f2) x22_2).f1) : Int).toNat (wrap64 ((rd x3_2 ((zau ((zah l0_0 x15_1).f2) x22_2).f1)) + 1))) := ⟨_, rfl⟩
               replace H : (zaR.l1 k2 y208 l0_0 (l0_0.length : Int) x15_1 ((zah l0_0 x15_1).f2) (((zah l0_0 x15_1).f2).length : Int) (wrap64 (x22_2 + 1))) = some r := by first | (rw [hy208]; with_reducible exact H) | (have H2_ := (Option.bind_some _ _).symm.trans H; rw [hy208]; with_reducible exact H2_) | (have H2_ := (Option.bind_some _ _).symm.trans H; with_reducible exact H2_) | with_reducible exact H | (rw [hy208]; exact H) | exact H
               have Ny208 := zaa.mk hy208
               clear hy208
               have H' := zaa.mk H
               clear H
               have p205 : 0 ≤ (x22_2 : Int) := of_decide_eq_true (by first | (with_reducible assumption) | assumption)
               have q205 : x22_2 < (((zah l0_0 x15_1).f2).length : Int) := of_decide_eq_true (by first | (with_reducible assumption) | assumption)
               obtain ⟨ad205, e205, hx205_0, hx205_1⟩ := zb4 HR203_2.out x22_2 p205 q205
               cases e205
               replace hx205_0 := (HB.out.cell (World.block_lt_of_cell? w _ hx205_0)).trans hx205_0
               replace hx205_1 := (HB.out.cell (World.block_lt_of_cell? w _ hx205_1)).trans hx205_1
               replace p205 := eq_true p205
               replace q205 := eq_true q205
               go_wp2_with (first | ((with_reducible refine zaS (N := 7) rfl ?_); refine zaG ?hg (N := 7) ?hd (cs := #[.string (⟨#[]⟩ : ByteArray), .int .i64 0]) (t := 50) ?hr ?_; (case hd => rfl); (case hg => rfl); (case hr => first | (go_simp; done) | (go_simp; rfl)); intro gb206 hg w21 hbox hb; have n0_ := zaa.mk (Kd.zcj (by (with_reducible repeat (first | apply Kd.zbA | apply Kd.zbH | apply Kd.zca)); exact HO_3.out) hb); have n1_ := zaa.mk (zan (g := gb199) (o := .cells #[.slice (some ad203) l0_0.length c0_0] 24 (0, 0)) (by (with_reducible repeat (first | refine zaj ?_ _ | refine zak ?_ | refine zai ?_ _)); exact BK199.out) hb); have n2_ := zaa.mk (zan (g := gb204) (o := .cells #[.int .i64 ((zah l0_0 x15_1).f0), .slice A203_1 ((zah l0_0 x15_1).f1).length c203_1, .slice (some ad205) ((zah l0_0 x15_1).f2).length c203_2, .string ((zah l0_0 x15_1).f3), .int .i64 ((zah l0_0 x15_1).f4), .int .i64 ((zah l0_0 x15_1).f5)] 40 (0, 0)) (by (with_reducible repeat (first | refine zaj ?_ _ | refine zak ?_ | refine zai ?_ _)); exact BK204.out) hb); have n3_ := zaa.mk (zam (by repeat (first | (with_reducible first | exact HB.out | apply zad | apply zab | apply zae | refine zal ?_ GE199.out | refine zal ?_ GE204.out) | exact HB.out)) hb); have n4_ := zaa.mk (hbox); have n5_ := zaa.mk ((by rw [hg]; exact (zar (by repeat (first | (with_reducible first | exact HB.out | apply zad | apply zab | apply zae | refine zal ?_ GE199.out | refine zal ?_ GE204.out) | exact HB.out))) : w.heap.size ≤ gb206)); have n6_ := zaa.mk ((by rw [hg]; exact (zar (by repeat (first | (with_reducible first | exact HB.out | apply zad | apply zab | apply zae | refine zal ?_ GE199.out | refine zal ?_ GE204.out) | exact HB.out))) : w.heap.size ≤ gb206)); have n7_ := zaa.mk ((by rw [hg]; exact Nat.ne_of_lt (zaO (g := gb199) (o := .cells #[.slice (some ad203) l0_0.length c0_0] 24 (0, 0)) (by (with_reducible repeat (first | refine zaj ?_ _ | refine zak ?_ | refine zai ?_ _)); exact BK199.out)) : gb199 ≠ gb206)); have n8_ := zaa.mk ((by rw [hg]; exact Nat.ne_of_gt (zaO (g := gb199) (o := .cells #[.slice (some ad203) l0_0.length c0_0] 24 (0, 0)) (by (with_reducible repeat (first | refine zaj ?_ _ | refine zak ?_ | refine zai ?_ _)); exact BK199.out)) : gb206 ≠ gb199)); have n9_ := zaa.mk ((by rw [hg]; exact Nat.ne_of_lt (zaO (g := gb204) (o := .cells #[.int .i64 ((zah l0_0 x15_1).f0), .slice A203_1 ((zah l0_0 x15_1).f1).length c203_1, .slice (some ad205) ((zah l0_0 x15_1).f2).length c203_2, .string ((zah l0_0 x15_1).f3), .int .i64 ((zah l0_0 x15_1).f4), .int .i64 ((zah l0_0 x15_1).f5)] 40 (0, 0)) (by (with_reducible repeat (first | refine zaj ?_ _ | refine zak ?_ | refine zai ?_ _)); exact BK204.out)) : gb204 ≠ gb206)); have n10_ := zaa.mk ((by rw [hg]; exact Nat.ne_of_gt (zaO (g := gb204) (o := .cells #[.int .i64 ((zah l0_0 x15_1).f0), .slice A203_1 ((zah l0_0 x15_1).f1).length c203_1, .slice (some ad205) ((zah l0_0 x15_1).f2).length c203_2, .string ((zah l0_0 x15_1).f3), .int .i64 ((zah l0_0 x15_1).f4), .int .i64 ((zah l0_0 x15_1).f5)] 40 (0, 0)) (by (with_reducible repeat (first | refine zaj ?_ _ | refine zak ?_ | refine zai ?_ _)); exact BK204.out)) : gb206 ≠ gb204)); clear HO_3; clear BK199; clear BK204; clear HB; have HO_3 := n0_; have BK199 := n1_; have BK204 := n2_; have HB := n3_; have BK206 := n4_; have GW206 := n5_; have GE206 := n6_; have NB199_206 := n7_; have NB206_199 := n8_; have NB204_206 := n9_; have NB206_204 := n10_; clear n0_ n1_ n2_ n3_ n4_ n5_ n6_ n7_ n8_ n9_ n10_; clear hb hbox hg; have hnb22 := NB206_199.out; have hnc22 := NB199_206.out; have hnb23 := NB206_204.out; have hnc23 := NB204_206.out; have hcz24_0 : w21.cell? ⟨gb206, 0, none⟩ = some (.string (⟨#[]⟩ : ByteArray)) := (zac BK206.out 0).trans rfl; have hcz24_1 : w21.cell? ⟨gb206, 1, none⟩ = some (.int .i64 0) := (zac BK206.out 1).trans rfl; have hfz24_0 := zaf BK206.out 0; have hfz24_1 := zaf BK206.out 1) | ((with_reducible refine gate_store (t := 50) (p := 7) rfl ?_); refine store_event (t := 50) (p := 7) (v := ?vo_w25) (w1 := ((w21.setCell ⟨gb206, 0, none⟩ (.string ((zau ((zah l0_0 x15_1).f2) x22_2).f0))).setCell ⟨gb206, 1, none⟩ (.int .i64 ((zau ((zah l0_0 x15_1).f2) x22_2).f1)))) ?hg ?ho ?hn ?hr ?_; (case ho => rfl); (case hg => rfl); (case hn => rfl); (case hr => first | (go_simp; done) | (go_simp; rfl)); intro w25 hw; have n0_ : zaa (Kd.R (Kd.int .i64) 3 w25 w.heap.size (fun _ => True) v201 x3_2) := ⟨(by rw [hw]; exact (by (with_reducible repeat (first | apply Kd.zbA | apply Kd.zbH | apply Kd.zca)); exact Kd.zbj (Kd.R_far (p := ⟨gb206, 1, none⟩) (Kd.R_far (p := ⟨gb206, 0, none⟩) (Kd.zch HO_3.out BK206.out (by decide)) (fun _ hk => hk.2) (.string ((zau ((zah l0_0 x15_1).f2) x22_2).f0))) (fun _ hk => hk.2) (.int .i64 ((zau ((zah l0_0 x15_1).f2) x22_2).f1))) (fun _ hk => trivial)))⟩; have n1_ : zaa (w25.heap[gb199]? = some (.cells #[.slice (some ad203) l0_0.length c0_0] 24 (0, 0))) := ⟨(by rw [hw]; exact (by (with_reducible repeat (first | refine zaj ?_ _ | refine zak ?_ | refine zai ?_ _)); refine zaD ?_ NB199_206.out _; (with_reducible repeat (first | refine zaj ?_ _ | refine zak ?_ | refine zai ?_ _)); refine zaD ?_ NB199_206.out _; (with_reducible repeat (first | refine zaj ?_ _ | refine zak ?_ | refine zai ?_ _)); exact BK199.out))⟩; have n2_ : zaa (w25.heap[gb204]? = some (.cells #[.int .i64 ((zah l0_0 x15_1).f0), .slice A203_1 ((zah l0_0 x15_1).f1).length c203_1, .slice (some ad205) ((zah l0_0 x15_1).f2).length c203_2, .string ((zah l0_0 x15_1).f3), .int .i64 ((zah l0_0 x15_1).f4), .int .i64 ((zah l0_0 x15_1).f5)] 40 (0, 0))) := ⟨(by rw [hw]; exact (by (with_reducible repeat (first | refine zaj ?_ _ | refine zak ?_ | refine zai ?_ _)); refine zaD ?_ NB204_206.out _; (with_reducible repeat (first | refine zaj ?_ _ | refine zak ?_ | refine zai ?_ _)); refine zaD ?_ NB204_206.out _; (with_reducible repeat (first | refine zaj ?_ _ | refine zak ?_ | refine zai ?_ _)); exact BK204.out))⟩; have n3_ : zaa (w25.heap[gb206]? = some (.cells #[.string ((zau ((zah l0_0 x15_1).f2) x22_2).f0), .int .i64 ((zau ((zah l0_0 x15_1).f2) x22_2).f1)] 50 (0, 0))) := ⟨(by rw [hw]; exact (by (with_reducible repeat (first | refine zaj ?_ _ | refine zak ?_ | refine zai ?_ _)); refine zaP (cs := #[.string ((zau ((zah l0_0 x15_1).f2) x22_2).f0), .int .i64 0]) ?_ 1 _ rfl; (with_reducible repeat (first | refine zaj ?_ _ | refine zak ?_ | refine zai ?_ _)); refine zaP (cs := #[.string (⟨#[]⟩ : ByteArray), .int .i64 0]) ?_ 0 _ rfl; (with_reducible repeat (first | refine zaj ?_ _ | refine zak ?_ | refine zai ?_ _)); exact BK206.out))⟩; have n4_ : zaa (Below w.heap.size w w25) := ⟨(by rw [hw]; exact (by repeat (first | (with_reducible first | exact HB.out | apply zad | apply zab | apply zae | refine zal ?_ GE199.out | refine zal ?_ GE204.out | refine zal ?_ GE206.out) | exact HB.out)))⟩; clear hw; clear HO_3; clear BK199; clear BK204; clear BK206; clear HB; have HO_3 := n0_; have BK199 := n1_; have BK204 := n2_; have BK206 := n3_; have HB := n4_; clear n0_ n1_ n2_ n3_ n4_; have hcz26_0 : w25.cell? ⟨gb206, 0, none⟩ = some (.string ((zau ((zah l0_0 x15_1).f2) x22_2).f0)) := (zac BK206.out 0).trans rfl; have hcz26_1 : w25.cell? ⟨gb206, 1, none⟩ = some (.int .i64 ((zau ((zah l0_0 x15_1).f2) x22_2).f1)) := (zac BK206.out 1).trans rfl; have hfz26_0 := zaf BK206.out 0; have hfz26_1 := zaf BK206.out 1; obtain ⟨Ao27, co27, eo27⟩ := Kd.zbP HO_3.out; subst eo27; have p207 : 0 ≤ (((zau ((zah l0_0 x15_1).f2) x22_2).f1) : Int) := of_decide_eq_true (by first | (with_reducible assumption) | assumption); have q207 : ((zau ((zah l0_0 x15_1).f2) x22_2).f1) < (x3_2.length : Int) := of_decide_eq_true (by first | (with_reducible assumption) | assumption); obtain ⟨ad207, e207, hx207_0⟩ := Kd.at_int (Kd.zbR HO_3.out).2.2 ((zau ((zah l0_0 x15_1).f2) x22_2).f1) p207 q207; cases e207; replace p207 := eq_true p207; replace q207 := eq_true q207; have p20 : 0 ≤ (((zau ((zah l0_0 x15_1).f2) x22_2).f1) : Int) := of_decide_eq_true (by first | (with_reducible assumption) | assumption); have q20 : (((zau ((zah l0_0 x15_1).f2) x22_2).f1) : Int) < ((x3_2.length : Int) : Int) := of_decide_eq_true (by first | (with_reducible assumption) | assumption); obtain ⟨go20, co20, eo20, gb20, gl20, cl20, HG20⟩ := Kd.R_form HO_3.out (by omega); (first | cases eo20 | (injection eo20 with ea_ en_ ec_; (first | subst ea_ | (injection ea_ with ea_; subst ea_)); subst ec_; clear en_)); have GB20 := zaa.mk gb20; have GG20 := zaa.mk HG20; clear gb20 gl20 HG20; (first | simp only [add_plain] at hx207_0 | skip); obtain ⟨hx20_0, hf20_0⟩ := Kd.R_celln 0 HO_3.out (((zau ((zah l0_0 x15_1).f2) x22_2).f1) : Int) p20 q20; replace p20 := eq_true p20; replace q20 := eq_true q20; obtain ⟨hy28_, hz28_⟩ := Kd.R_celln 0 HO_3.out (((zau ((zah l0_0 x15_1).f2) x22_2).f1) : Int) (of_decide_eq_true (by first | (with_reducible assumption) | assumption)) (of_decide_eq_true (by first | (with_reducible assumption) | assumption)); have HP28 := Kd.R_putg HO_3.out (((zau ((zah l0_0 x15_1).f2) x22_2).f1) : Int) (wrap64 ((rd x3_2 ((zau ((zah l0_0 x15_1).f2) x22_2).f1)) + 1))) | ((with_reducible refine gate_store (t := 3) (p := 32) rfl ?_); refine store_event (t := 3) (p := 32) (v := ?vo_w29) (w1 := (w25.setCell ⟨go20, (((zau ((zah l0_0 x15_1).f2) x22_2).f1) : Int).toNat, none⟩ (.int .i64 (wrap64 ((rd x3_2 ((zau ((zah l0_0 x15_1).f2) x22_2).f1)) + 1))))) ?hg ?ho ?hn ?hr ?_; (case ho => rfl); (case hg => rfl); (case hn => rfl); (case hr => first | (go_simp; done) | (go_simp; rfl)); intro w29 hw; have hg : w25.grownBy w29 (some go20) := (by rw [hw]; exact HP28.2); have hp_ : Kd.R (Kd.int .i64) 3 w29 w.heap.size (fun _ => True) (.slice (some ⟨go20, 0, none⟩) x3_2.length co27) y208 := (by rw [hw, Ny208.out]; exact HP28.1); clear HP28; have n0_ := zaa.mk (hp_); have n1_ := zaa.mk (zbe (g := gb199) (o := .cells #[.slice (some ad203) l0_0.length c0_0] 24 (0, 0)) (by (with_reducible repeat (first | refine zaj ?_ _ | refine zak ?_ | refine zai ?_ _)); exact BK199.out) hg (Kd.R_ne HO_3.out BK199.out (by decide))); have n2_ := zaa.mk (zbe (g := gb204) (o := .cells #[.int .i64 ((zah l0_0 x15_1).f0), .slice A203_1 ((zah l0_0 x15_1).f1).length c203_1, .slice (some ad205) ((zah l0_0 x15_1).f2).length c203_2, .string ((zah l0_0 x15_1).f3), .int .i64 ((zah l0_0 x15_1).f4), .int .i64 ((zah l0_0 x15_1).f5)] 40 (0, 0)) (by (with_reducible repeat (first | refine zaj ?_ _ | refine zak ?_ | refine zai ?_ _)); exact BK204.out) hg (Kd.R_ne HO_3.out BK204.out (by decide))); have n3_ := zaa.mk (zbe (g := gb206) (o := .cells #[.string ((zau ((zah l0_0 x15_1).f2) x22_2).f0), .int .i64 ((zau ((zah l0_0 x15_1).f2) x22_2).f1)] 50 (0, 0)) (by (with_reducible repeat (first | refine zaj ?_ _ | refine zak ?_ | refine zai ?_ _)); exact BK206.out) hg (Kd.R_ne HO_3.out BK206.out (by decide))); have n4_ := zaa.mk ((by rw [hw]; exact zal (HB.out) GB20.out : Below w.heap.size w w29)); clear HO_3; clear BK199; clear BK204; clear BK206; clear HB; have HO_3 := n0_; have BK199 := n1_; have BK204 := n2_; have BK206 := n3_; have HB := n4_; clear n0_ n1_ n2_ n3_ n4_; clear hg hw hp_))
               go_roundg k2
               case measure => have := HK1.out; have := HK2.out; omega
               case rel => exact ⟨(y208), (wrap64 (x22_2 + 1)), (by first | rfl | (simp; done) | (simp [*]; done)), H', ⟨by have := HK1.out; have := HK2.out; omega⟩, ⟨by (with_reducible repeat (first | apply Kd.zbA | apply Kd.zbH | apply Kd.zca)); exact HO_3.out⟩, ⟨by (with_reducible repeat (first | refine zaj ?_ _ | refine zak ?_ | refine zai ?_ _)); exact BK199.out⟩, ⟨by (with_reducible repeat (first | refine zaj ?_ _ | refine zak ?_ | refine zai ?_ _)); exact BK204.out⟩, ⟨by repeat (first | (with_reducible first | exact HB.out | apply zad | apply zab | apply zae | refine zal ?_ GE199.out | refine zal ?_ GE204.out | refine zal ?_ GE206.out) | exact HB.out)⟩⟩
              ·rw [if_neg c19] at H
               exact absurd H (by simp)
             ·rw [if_neg c18] at H
              exact absurd H (by simp)
            ·rw [if_neg c17] at H
             exact absurd H (by simp)
           ·rw [if_neg c16] at H
            exact absurd H (by simp)
          ·rw [if_neg c15] at H
           have c15b0 : decide (x22_2 < (((zah l0_0 x15_1).f2).length : Int)) = false := decide_eq_false c15
           clear c15
           have H' := zaa.mk H
           clear H
           go_wp2
           go_roundg k2
           case measure => have := HK1.out; have := HK2.out; omega
           case rel => exact ⟨(x3_2), (wrap64 (x15_1 + 1)), (by first | rfl | (simp; done) | (simp [*]; done)), H', ⟨by have := HK1.out; have := HK2.out; omega⟩, ⟨by (with_reducible repeat (first | apply Kd.zbA | apply Kd.zbH | apply Kd.zca)); exact HO_3.out⟩, ⟨by (with_reducible repeat (first | refine zaj ?_ _ | refine zak ?_ | refine zai ?_ _)); exact BK199.out⟩, ⟨by repeat (first | (with_reducible first | exact HB.out | apply zad | apply zab | apply zae | refine zal ?_ GE199.out | refine zal ?_ GE204.out) | exact HB.out)⟩⟩
       ·rw [if_neg c11] at H
        exact absurd H (by simp)
      ·rw [if_neg c10] at H
       exact absurd H (by simp)
     ·rw [if_neg c9] at H
      have c9b0 : decide (x15_1 < (l0_0.length : Int)) = false := decide_eq_false c9
      clear c9
      obtain rfl := Option.some.inj H
      go_wp2
      go_ret
      exact ⟨_, by first | rfl | (simp [zaw, zav] <;> rfl) | (simp [*, zaw, zav] <;> rfl), by (with_reducible repeat (first | apply Kd.zbA | apply Kd.zbH | apply Kd.zca)); exact HO_3.out, by repeat (first | (with_reducible first | exact HB.out | apply zad | apply zab | apply zae | refine zal ?_ GE199.out) | exact HB.out)⟩
  ·rw [if_neg c3] at H
   exact absurd H (by simp)
 ·rw [if_neg c2] at H
  exact absurd H (by simp)
def WalkSt (W : World) (B g : Nat) (A : Option Addr) (n c : Nat) (s : List Bool) (q : List Int) : Prop :=
 B ≤ g ∧ ∃ sv tv, W.heap[g]? = some (.cells #[.slice A n c, sv, tv] 121 (0, 0)) ∧ Kd.R Kd.bool 4 W B (fun _ => True) sv s ∧ Kd.Q (Kd.int .i64) 3 W B (fun _ => True) tv q
def newDir (l : List S40) (s : List Bool) (x : Int) : Bool := ((zah l x).f0 == 2) && !(rdOf false s x)
def meetF (l : List S40) (st : List Bool × List Int) (x : Int) : List Bool × List Int := if newDir l st.1 x = true then (st.1.set x.toNat true, st.2 ++ [x]) else st
set_option maxHeartbeats 2000000 in
set_option maxRecDepth 100000 in
theorem meet_calls (l : List S40) (A : Option Addr) (c g : Nat) (s : List Bool) (q : List Int) (x : Int) (w0 w : World) (hr : Kd.C k40 w0 A l.length l) (hb : Below w0.heap.size w0 w) (hst : WalkSt w w0.heap.size g A l.length c s q)
  (h0 : 0 ≤ x) (h1 : x < (l.length : Int)) (hs : s.length = l.length) (hq : q.length < 17592186044416) :
  Calls Tryz.prog 94 #[.pointer (some ⟨g, 0, none⟩), .int .i64 x] w fun e w' => e = .returned (.tuple #[]) ∧ WalkSt w' w0.heap.size g A l.length c (meetF l (s, q) x).1 (meetF l (s, q) x).2 ∧ Below w0.heap.size w0 w' := by
 have HW0 := zaa.mk hst
 obtain ⟨hg0, sv, tv, hg, hR, hQ⟩ := hst
 obtain ⟨ad, A1, c1, A2, c2, rfl, hx0, hx1, hx2, hx3, hx4, hx5, hl1, hi1, hl2, hi2⟩ := zbc hr x h0 h1
 clear hx1 hx2 hx3 hx4 hx5 hl1 hi1 hl2 hi2
 replace hx0 := (hb.cell (World.block_lt_of_cell? w0 _ hx0)).trans hx0
 obtain ⟨sg, cap, rfl, hsg, hsl, cells, hsb⟩ := Kd.R_form hR (by omega)
 obtain ⟨hsc, hsf⟩ := Kd.R_cell false hR x h0 (by omega)
 obtain ⟨tA, tc, rfl, _⟩ := Kd.Q_slice hQ
 have hc0 : w.cell? ⟨g, 0, none⟩ = some (.slice (some ad) l.length c) := (zac hg 0).trans rfl
 have hc1 : w.cell? ⟨g, 1, none⟩ = some (.slice (some ⟨sg, 0, none⟩) s.length cap) := (zac hg 1).trans rfl
 have hc2 : w.cell? ⟨g, 2, none⟩ = some (.slice tA q.length tc) := (zac hg 2).trans rfl
 have p0 := eq_true h0
 have p1 := eq_true h1
 have p2 := eq_true (show x < (s.length : Int) by omega)
 by_cases ck : (zah l x).f0 = 2
 ·have hk : ((zah l x).f0 == 2) = true := by simpa using ck
  cases hsn : rdOf false s x
  ·have HM : zaa (meetF l (s, q) x = (s.set x.toNat true, q ++ [x])) := ⟨by unfold meetF newDir; simp [ck, hsn]⟩
   rw [hsn] at hsc
   have hne : g ≠ sg := blk_ne hg hsb (by decide)
   have HR1 := zaa.mk (Kd.R_put hR x true).1
   have HQ1 := zaa.mk (Kd.Q_set hQ hsb (by decide) x.toNat (.bool true))
   have HG1 := zaa.mk (zaD hg (p := ⟨sg, x.toNat, none⟩) hne (.bool true))
   have HB1 := zaa.mk (hb.setCell (p := ⟨sg, x.toNat, none⟩) hsg (.bool true))
   have hd2 : (w.setCell ⟨sg, x.toNat, none⟩ (.bool true)).cell? ⟨g, 2, none⟩ = some (.slice tA q.length tc) := (zac HG1.out 2).trans rfl
   have HNE := zaa.mk (Kd.Q_ne HQ1.out HG1.out (by decide))
   have HQL := zaa.mk hq
   clear ck hsn hR hQ hg hsb hb hq
   go_enter Tryz.func94, Tryz.ntmps94
   go_wp2_with (first | (at_builtin; refine Kd.Q_append (Kd.int .i64) (w0 := w0) w0.heap.size rfl (.tmp 34) (.tmp 36) 95 3 (.int .i64 0) 8 rfl Tryz.underlying95 info3 rfl (by decide) (by omega) (.slice tA q.length tc) q x [.int .i64 x] (fun _ => True) (fun _ => False) rfl ?hx ?hp (fun _ hk => hk.elim) (fun _ _ => trivial) ?ho ?hb ?hs ?hl ?_; (case hx => exact congrArg (fun n => Value.slice (some ⟨n, 0, none⟩) 1 1) (show w.heap.size = (w.setCell ⟨sg, x.toNat, none⟩ (.bool true)).heap.size by simp [World.setCell])); (case hp => exact rfl); (case ho => exact HQ1.out); (case hb => exact HB1.out); (case hs => exact HB1.out.size); (case hl => have := HQL.out; omega); intro v1 w2 hq2 hb2 hg2 hat; obtain ⟨tA2, tc2, rfl, _⟩ := Kd.Q_slice hq2; have HQ2 := zaa.mk hq2; have HB2 := zaa.mk hb2; have HG2 := zaa.mk (zbe HG1.out hg2 HNE.out); have HR2 := zaa.mk (Kd.R_over' HR1.out (Kd.Q_typed HQ1.out) (by decide) hg2); have hd3 : w2.cell? ⟨g, 2, none⟩ = some (.slice tA q.length tc) := (zac HG2.out 2).trans rfl; have hf3 : w2.frozen? ⟨g, 2, none⟩ = false := zaf HG2.out 2; clear hq2 hb2 hg2 hat))
   go_end0
   refine ⟨rfl, ?_, HB2.out.setCell (p := ⟨g, 2, none⟩) hg0 _⟩
   rw [HM.out]
   have HQ3 := Kd.Q_set HQ2.out HG2.out (by decide) 2 (.slice tA2 (q.length + 1) tc2)
   rw [show (q ++ [x]).length = q.length + 1 by simp] at HQ3
   exact ⟨hg0, _, _, zaP HG2.out 2 _ rfl, Kd.R_set HR2.out HG2.out (by decide) 2 _, HQ3⟩
  ·have HM : zaa (meetF l (s, q) x = (s, q)) := ⟨by unfold meetF newDir; simp [ck, hsn]⟩
   rw [hsn] at hsc
   have HB0 := zaa.mk hb
   clear ck hsn hR hQ hg hsb hb hq
   go_enter Tryz.func94, Tryz.ntmps94
   go_wp2
   go_end0
   exact ⟨rfl, by rw [HM.out]; exact HW0.out, HB0.out⟩
 ·have hk : ((zah l x).f0 == 2) = false := by simpa using ck
  have HM : zaa (meetF l (s, q) x = (s, q)) := ⟨by unfold meetF newDir; simp [ck]⟩
  have HB0 := zaa.mk hb
  clear ck hR hQ hg hsb hb hq
  go_enter Tryz.func94, Tryz.ntmps94
  go_wp2
  go_end0
  exact ⟨rfl, by rw [HM.out]; exact HW0.out, HB0.out⟩
theorem WalkSt.alloc {W : World} {B g : Nat} {A : Option Addr} {n c : Nat} {s : List Bool} {q : List Int} (h : WalkSt W B g A n c s q) (o : Obj) : WalkSt (W.alloc o) B g A n c s q := by
 obtain ⟨h0, sv, tv, hg, hR, hQ⟩ := h
 exact ⟨h0, sv, tv, ((zad (Below.refl W.heap.size W) o).block g (zaO hg)).trans hg, Kd.zbA hR o, Kd.Q_alloc hQ o⟩
theorem meetF_len (l : List S40) (st : List Bool × List Int) (x : Int) : (meetF l st x).1.length = st.1.length := by
 unfold meetF; split <;> simp
def meets (l : List S40) : List S50 → List Bool × List Int → Option (List Bool × List Int)
 | [], st => some st
 | x :: r, st => if 0 ≤ x.f1 ∧ x.f1 < (l.length : Int) ∧ st.2.length < 17592186044416 then meets l r (meetF l st x.f1) else none
theorem meets_drop (l : List S40) (ns : List S50) (i : Nat) (h : i < ns.length) (st : List Bool × List Int) : meets l (ns.drop i) st = if 0 ≤ (zau ns i).f1 ∧ (zau ns i).f1 < (l.length : Int) ∧ st.2.length < 17592186044416 then meets l (ns.drop (i + 1)) (meetF l st (zau ns i).f1) else none := by
 rw [List.drop_eq_getElem_cons h]
 have e : zau ns (i : Int) = ns[i] := by simp [zau, List.getD, List.getElem?_eq_getElem h]
 rw [meets, e]
def reachF : Nat → List S40 → List Bool → List Int → Option (List Bool)
 | 0, _, _, _ => none
 | k + 1, l, s, q => match q with
  | [] => some s
  | n :: q' => if 0 ≤ n ∧ n < (l.length : Int) then (meets l (zah l n).f2 (s, q')).bind fun st => reachF k l st.1 st.2 else none
theorem reachF_mono : ∀ k l s q, LeO (reachF k l s q) (reachF (k + 1) l s q)
 | 0, _, _, _ => fun _ h => by simp [reachF] at h
 | k + 1, l, s, q => by
  unfold reachF
  split
  ·exact LeO.refl _
  ·refine LeO.ite (LeO.bind (LeO.refl _) fun st => ?_) (LeO.refl _)
   exact reachF_mono k l st.1 st.2
def zaz.f (k : Nat) (l0_0 : List S40) : Option (List Bool) := if 0 < l0_0.length then (if l0_0.length ≤ 281474976710656 then reachF k l0_0 (meetF l0_0 (List.replicate l0_0.length false, []) 0).1 (meetF l0_0 (List.replicate l0_0.length false, []) 0).2 else none) else none
theorem zaz.mono : ∀ a0 k, LeO (zaz.f k a0) (zaz.f (k + 1) a0) := fun a0 k => LeO.ite (LeO.ite (reachF_mono _ _ _ _) (LeO.refl _)) (LeO.refl _)
def zaz.W1 (w : World) (A : Option Addr) (n c : Nat) : World := w.alloc (.cells #[.slice A n c] 24)
def zaz.W (w : World) (A : Option Addr) (n c : Nat) : World := (((w.alloc (.cells #[.slice A n c] 24)).alloc (.cells (madeCells #[.bool false] n) 4)).alloc (.cells #[.slice A n c, .slice (some ⟨w.heap.size + 1, 0, none⟩) n n, .slice none 0 0] 121)).drew
theorem zaz.W_below (w : World) (A : Option Addr) (n c : Nat) : Below (zaz.W1 w A n c).heap.size (zaz.W1 w A n c) (zaz.W w A n c) := zaB (zad (zad (Below.refl _ _) _) _)
theorem zaz.zbd (w : World) (A : Option Addr) (n c : Nat) : Below w.heap.size w (zaz.W1 w A n c) := zad (Below.refl _ _) _
theorem zaz.W_st (w : World) (A : Option Addr) (n c : Nat) (hn : n ≤ 9223372036854775807) : WalkSt (zaz.W w A n c) (zaz.W1 w A n c).heap.size (w.heap.size + 1 + 1) A n c (List.replicate n false) [] := by
 have h2 := own_made_of (enc := Value.bool) (d := false) (zaz.W1 w A n c) (zaz.W1 w A n c).heap.size 4 n (Nat.le_refl _) hn
 have h3 := zbb (((w.alloc (.cells #[.slice A n c] 24)).alloc (.cells (madeCells #[.bool false] n) 4))) (.cells #[.slice A n c, .slice (some ⟨w.heap.size + 1, 0, none⟩) n n, .slice none 0 0] 121)
 rw [World.size_alloc, World.size_alloc] at h3
 have e1 : (zaz.W1 w A n c).heap.size = w.heap.size + 1 := World.size_alloc _ _
 refine ⟨by omega, _, _, h3, ?_, Kd.Q_nil _ _ _ _ _⟩
 rw [e1] at h2 ⊢
 have h4 : (((zaz.W1 w A n c).alloc (.cells (madeCells #[.bool false] n) 4))).ownsRow (w.heap.size + 1) 4 1 (.slice (some ⟨w.heap.size + 1, 0, none⟩) n n) (List.replicate n false).length (encs Value.bool (List.replicate n false)) := by rw [List.length_replicate]; exact h2
 have h5 := Kd.R_of_own (ok := fun _ => True) (h1 := fun _ => rfl) h4 (fun _ _ => trivial)
 exact Kd.zca (Kd.zbA h5 _)
theorem zaz.zb3 {w w' : World} {A : Option Addr} {n c : Nat} (h : Below (zaz.W1 w A n c).heap.size (zaz.W1 w A n c) w') : w'.cell? ⟨w.heap.size, 0, none⟩ = some (.slice A n c) :=
 (zac ((h.block w.heap.size (by show _ < (w.alloc _).heap.size; simp)).trans (zbb w _)) 0).trans rfl
set_option maxHeartbeats 4000000 in
set_option maxRecDepth 100000 in
theorem zaz.calls (k : Nat) (A0_0 : Option Addr) (c0_0 : Nat) (l0_0 : List S40) (r : List Bool) (w : World) (hr0_0 : Kd.C k40 w A0_0 l0_0.length l0_0) (hc0_0 : l0_0.length ≤ c0_0) (h : zaz.f k l0_0 = some r) :
  Calls Tryz.prog 62 #[.agg #[.slice A0_0 l0_0.length c0_0]] w fun e w' => ∃ v0_ : Value, e = .returned (v0_) ∧ Kd.R Kd.bool 4 w' w.heap.size (fun _ => True) v0_ r ∧ Below w.heap.size w w' := by
 unfold zaz.f at h
 split at h
 ·rename_i hp
  split at h
  ·rename_i hm
   have HH := zaa.mk h
   have HR := zaa.mk hr0_0
   have HP := zaa.mk hp
   have HL := zaa.mk (show l0_0.length ≤ 9223372036854775807 by omega)
   have hmk := print_make_of (P := Tryz.prog) 97 4 (.bool false) 1 Tryz.underlying97 (by kernel_rfl) rfl (by decide) l0_0.length (by omega)
   have hut := Tryz.underlying24
   have huw := Tryz.underlying121
   have hun := Tryz.underlying50
   have hmf : ∀ (fn : Fn) (first cap : Array Value) (w : World), (Instr.makeFunc fn first cap).run Tryz.prog w = .ok (.func fn first cap) w := fun _ _ _ _ => rfl
   clear h hr0_0 hc0_0 hp hm
   have HR1 := zaa.mk (Kd.C_below HR.out (zaz.zbd w A0_0 l0_0.length c0_0))
   have hmf : ∀ (fn : Fn) (first cap : Array Value) (w : World), (Instr.makeFunc fn first cap).run Tryz.prog w = .ok (.func fn first cap) w := fun _ _ _ _ => rfl
   go_enter Tryz.func62, Tryz.ntmps62
   go_wp2
   go_region
   go_wp2_with (first | (go_at_call 94; refine (meet_calls l0_0 A0_0 c0_0 (w.heap.size + 1 + 1) (List.replicate l0_0.length false) [] 0 (zaz.W1 w A0_0 l0_0.length c0_0) (zaz.W w A0_0 l0_0.length c0_0) HR1.out (zaz.W_below _ _ _ _) (zaz.W_st _ _ _ _ HL.out) (by omega) (by have := HP.out; omega) (by simp) (by simp)).mono ?_; rintro e w1 ⟨rfl, hst, hb⟩; have HST := zaa.mk hst; have HB := zaa.mk hb; clear hst hb))
   go_loopg [] k (fun kq w' => ∃ (s : List Bool) (q : List Int), zaa (reachF kq l0_0 s q = some r) ∧ zaa (kq ≤ k) ∧ zaa (s.length = l0_0.length) ∧ zaa (WalkSt w' (zaz.W1 w A0_0 l0_0.length c0_0).heap.size (w.heap.size + 1 + 1) A0_0 l0_0.length c0_0 s q) ∧ zaa (Below (zaz.W1 w A0_0 l0_0.length c0_0).heap.size (zaz.W1 w A0_0 l0_0.length c0_0) w'))
   case atStart => exact ⟨_, _, HH, ⟨Nat.le_refl _⟩, ⟨by rw [meetF_len]; simp⟩, HST, HB⟩
   case round =>
    clear HST HB
    obtain ⟨s, q, HE, HK, HSL, HST, HB⟩ := hrel
    cases gk with
    | zero => exact absurd HE.out (by simp [reachF])
    | succ k1 =>
     obtain ⟨hg0, sv, tv, hg, hR, hQ⟩ := HST.out
     obtain ⟨sA, sc, rfl⟩ := Kd.zbP hR
     obtain ⟨tA, tc, rfl, htc⟩ := Kd.Q_slice hQ
     have hc1 : wr.cell? ⟨w.heap.size + 1 + 1, 1, none⟩ = some (.slice sA s.length sc) := (zac hg 1).trans rfl
     have hc2 : wr.cell? ⟨w.heap.size + 1 + 1, 2, none⟩ = some (.slice tA q.length tc) := (zac hg 2).trans rfl
     have hf2 : wr.frozen? ⟨w.heap.size + 1 + 1, 2, none⟩ = false := zaf hg 2
     have hct := zaz.zb3 HB.out
     have HG := zaa.mk hg
     have HRR := zaa.mk hR
     have HQ := zaa.mk hQ
     have HE' := HE.out
     clear hg hR hQ HE
     cases q with
     | nil =>
      rw [reachF] at HE'
      obtain rfl := Option.some.inj HE'
      go_wp2
      go_ret
      exact ⟨_, rfl, Kd.zcw HRR.out (zaz.zbd w A0_0 l0_0.length c0_0).size, zam (zaz.zbd _ _ _ _) HB.out⟩
     | cons n q' =>
      rw [reachF] at HE'
      by_cases hn : 0 ≤ n ∧ n < (l0_0.length : Int)
      ·rw [if_pos hn] at HE'
       obtain ⟨st, hst, hrec⟩ := Option.bind_eq_some_iff.mp HE'
       obtain ⟨hn0, hn1⟩ := hn
       have HME := zaa.mk hst
       have HRE := zaa.mk hrec
       clear HE' hst hrec
       obtain ⟨_, _, hCq⟩ := Kd.Q_reads' HQ.out
       obtain ⟨qa, eqa, hq0⟩ := Kd.at_int hCq 0 (by omega) (by simp)
       subst eqa
       have hq0' : wr.cell? (qa.add 0) = some (.int .i64 n) := hq0
       have hq1' : wr.cell? qa = some (.int .i64 n) := by rw [← hq0']; congr 1
       obtain ⟨i0, hi0, _, hsz, _⟩ := info_parts info3
       have hcut := cut_from (P := Tryz.prog) 95 3 .i64 Tryz.underlying95 hi0 1 hsz (some qa) (n :: q').length tc 1 (by omega) (by simp; omega)
       have hQd := Kd.Q_drop (k := 1) HQ.out (by simp)
       obtain ⟨A', hA'⟩ : ∃ A1, A1 = (if tc = 1 then some qa else (some qa : Option Addr).map (·.add (1 * 1))) := ⟨_, rfl⟩
       have e1 : (1 : Int).toNat = 1 := rfl
       rw [e1, ← hA'] at hcut
       replace hQd : Kd.Q (Kd.int .i64) 3 wr (zaz.W1 w A0_0 l0_0.length c0_0).heap.size (fun _ => True) (.slice A' q'.length (tc - 1)) q' := by rw [hA']; exact hQd
       have ecut : (n :: q').length - 1 = q'.length := by simp
       rw [ecut] at hcut
       rw [List.length_cons] at hcut
       rw [List.length_cons] at hc2
       have HQD := zaa.mk hQd
       clear hQd e1 hA' ecut hq0 hCq hi0 hsz
       have HB2 := zaa.mk (HB.out.setCell (p := ⟨w.heap.size + 1 + 1, 2, none⟩) hg0 (.slice A' q'.length (tc - 1)))
       have HST2 : zaa (WalkSt (wr.setCell ⟨w.heap.size + 1 + 1, 2, none⟩ (.slice A' q'.length (tc - 1))) (zaz.W1 w A0_0 l0_0.length c0_0).heap.size (w.heap.size + 1 + 1) A0_0 l0_0.length c0_0 s q') := ⟨hg0, _, _, zaP HG.out 2 _ rfl, Kd.R_set HRR.out HG.out (by decide) 2 _, Kd.Q_set HQD.out HG.out (by decide) 2 _⟩
       have hct2 := zaz.zb3 HB2.out
       obtain ⟨na, A1, c1, A2, c2, rfl, hx0, hx1, hx2, hx3, hx4, hx5, hl1, hi1, hl2, hi2⟩ := zbc HR1.out n hn0 hn1
       replace hx2 := (HB2.out.cell (World.block_lt_of_cell? _ _ hx2)).trans hx2
       have HI2 := zaa.mk hi2
       have HL2 := zaa.mk hl2
       have HM2 := zaa.mk hi2.2.1
       have p0 := eq_true hn0
       have p1 := eq_true hn1
       clear hx0 hx1 hx3 hx4 hx5 hl1 hi1 hi2 hl2 HB HG HRR HQD HQ HST hg0 htc
       go_wp2
       go_loopw [46] (fun v46 w' => ∃ i : Nat, i ≤ (zah l0_0 n).f2.length ∧ v46 = .int .i64 i ∧ ∃ st2 : List Bool × List Int, zaa (meets l0_0 ((zah l0_0 n).f2.drop i) st2 = some st) ∧ zaa (st2.1.length = l0_0.length) ∧ zaa (WalkSt w' (zaz.W1 w (some na) l0_0.length c0_0).heap.size (w.heap.size + 1 + 1) (some na) l0_0.length c0_0 st2.1 st2.2) ∧ zaa (Below (zaz.W1 w (some na) l0_0.length c0_0).heap.size (zaz.W1 w (some na) l0_0.length c0_0) w')) (fun v46 _ => (zah l0_0 n).f2.length - (intOf v46).toNat)
       case atStart => exact ⟨0, Nat.zero_le _, rfl, _, HME, HSL, HST2, HB2⟩
       case round =>
        clear HB2 HST2 hct2 hx2 hct hc1 hc2 hf2 hq0' hq1' hcut HME
        obtain ⟨i, hi, rfl, st2, HE2, HS2, HST, HB⟩ := hrel
        have hmax := HM2.out
        by_cases hlt : i < (zah l0_0 n).f2.length
        ·have hd := HE2.out
         rw [meets_drop l0_0 _ i hlt] at hd
         split at hd
         ·rename_i hc
          obtain ⟨hy0, hy1, hy2⟩ := hc
          have HME := zaa.mk hd
          obtain ⟨ad, rfl, hx0, hx1⟩ := zb4 HI2.out (i : Int) (by omega) (by omega)
          have HB1 := zaa.mk (zam (zaz.zbd _ _ _ _) HB.out)
          replace hx0 := (HB.out.cell (World.block_lt_of_cell? _ _ hx0)).trans hx0
          replace hx1 := (HB.out.cell (World.block_lt_of_cell? _ _ hx1)).trans hx1
          rw [Int.toNat_natCast] at hx0 hx1
          have HYH := zaa.mk (show _ ∧ _ ∧ _ from ⟨hy0, hy1, hy2⟩)
          clear hd hy0 hy1 hy2
          go_wp2_with (first | (go_at_call 94; refine (meet_calls l0_0 (some na) c0_0 (w.heap.size + 1 + 1) st2.1 st2.2 (zau (zah l0_0 n).f2 i).f1 (zaz.W1 w (some na) l0_0.length c0_0) _ HR1.out (zad HB.out _) (HST.out.alloc _) HYH.out.1 HYH.out.2.1 HS2.out HYH.out.2.2).mono ?_; rintro e w1 ⟨rfl, hst, hb⟩; have HST3 := zaa.mk hst; have HB3 := zaa.mk hb; clear hst hb))
          go_roundw
          case rel => exact ⟨i + 1, by omega, by go_num, _, HME, ⟨by rw [meetF_len]; exact HS2.out⟩, HST3, HB3⟩
          case measure => simp [intOf]; omega
         ·cases hd
        ·have hd := HE2.out
         rw [List.drop_eq_nil_of_le (by omega), meets] at hd
         obtain rfl := Option.some.inj hd
         clear hd
         go_wp2
         go_roundg k1
         case measure => have := HK.out; omega
         case rel => exact ⟨_, _, HRE, ⟨by have := HK.out; omega⟩, HS2, HST, HB⟩
      ·rw [if_neg hn] at HE'
       cases HE'
  ·cases h
 ·cases h
def nodeB (l : List S40) (x : S40) : Bool := (tree_node.f l x.f0 x.f1 x.f2 x.f3 x.f4 x.f5).getD false
set_option maxHeartbeats 1000000 in
theorem nodeB_f (l : List S40) (x : S40) : tree_node.f l x.f0 x.f1 x.f2 x.f3 x.f4 x.f5 = some (nodeB l x) := by
 unfold nodeB tree_node.f
 simp only [zbh.f, zco.f, zcc.f, strings_IndexByte.f, Option.bind_some]
 repeat' (first | rfl | (simp only [Option.bind_some]; split) | split)
 all_goals rfl
def nodesB (l : List S40) (n : Nat) : Bool := (List.range n).all fun i => nodeB l (zah l i)
theorem nodesB_succ (l : List S40) (n : Nat) : nodesB l (n + 1) = (nodesB l n && nodeB l (zah l n)) := by
 unfold nodesB; rw [List.range_succ, List.all_append]; simp
theorem nodesB_false {l : List S40} {i n : Nat} (hi : i < n) (h : nodeB l (zah l i) = false) : nodesB l n = false := by
 unfold nodesB
 rw [List.all_eq_false]
 exact ⟨i, List.mem_range.2 hi, by simp [h]⟩
def zbg (l : List S40) (L : List Int) (R : List Bool) (i : Nat) : Bool :=
 decide (0 < i) && ((zah l i).f4 != rdOf 0 L i || ((zah l i).f0 == 2 && (decide (1 < (zah l i).f4) || (((zah l i).f4 == 0 && decide (0 < (zah l i).f2.length)) || ((zah l i).f4 == 1 && !(rdOf false R i))))))
def lastB (l : List S40) (L : List Int) (R : List Bool) (n : Nat) : Bool := (List.range n).all fun i => !zbg l L R i
theorem zb7 (l : List S40) (L : List Int) (R : List Bool) (n : Nat) : lastB l L R (n + 1) = (lastB l L R n && !zbg l L R n) := by
 unfold lastB; rw [List.range_succ, List.all_append]; simp
theorem lastB_false {l : List S40} {L : List Int} {R : List Bool} {i n : Nat} (hi : i < n) (h : zbg l L R i = true) : lastB l L R n = false := by
 unfold lastB
 rw [List.all_eq_false]
 exact ⟨i, List.mem_range.2 hi, by simp [h]⟩
def zbK (l : List S40) : Bool := decide (0 < l.length) && decide (l.length ≤ 64) && !(decide (1 < l.length) && (zah l ((l.length : Int) - 1)).f0 == 0) && (zah l 0).f0 == 2 && (zah l 0).f4 == 1
def zaH.f (k : Nat) (l0_0 : List S40) : Option Bool := if zbK l0_0 = true then (if nodesB l0_0 l0_0.length = true then ((zaR.f k l0_0).bind fun L => (zaz.f k l0_0).bind fun R => if L.length = l0_0.length ∧ R.length = l0_0.length then some (lastB l0_0 L R l0_0.length) else none) else some false) else some false
theorem zaH.mono : ∀ a0 k, LeO (zaH.f k a0) (zaH.f (k + 1) a0) := fun a0 k => LeO.ite (LeO.ite (LeO.bind (zaR.mono _ _) fun _ => LeO.bind (zaz.mono _ _) fun _ => LeO.refl _) (LeO.refl _)) (LeO.refl _)
def zaH.W1 (w : World) (A : Option Addr) (n c : Nat) : World := w.alloc (.cells #[.slice A n c] 24)
theorem zaH.zbd (w : World) (A : Option Addr) (n c : Nat) : Below w.heap.size w (zaH.W1 w A n c) := zad (Below.refl _ _) _
theorem zaH.zb3 {w w' : World} {A : Option Addr} {n c : Nat} (h : Below (zaH.W1 w A n c).heap.size (zaH.W1 w A n c) w') : w'.cell? ⟨w.heap.size, 0, none⟩ = some (.slice A n c) :=
 (zac ((h.block w.heap.size (by show _ < (w.alloc _).heap.size; simp)).trans (zbb w _)) 0).trans rfl
set_option maxHeartbeats 8000000 in
set_option maxRecDepth 100000 in
theorem zaH.calls (k : Nat) (A0_0 : Option Addr) (c0_0 : Nat) (l0_0 : List S40) (r : Bool) (w : World) (hr0_0 : Kd.C k40 w A0_0 l0_0.length l0_0) (hc0_0 : l0_0.length ≤ c0_0) (h : zaH.f k l0_0 = some r) :
  Calls Tryz.prog 25 #[.agg #[.slice A0_0 l0_0.length c0_0]] w fun e w' => e = .returned (.bool r) ∧ Below w.heap.size w w' := by
 unfold zaH.f at h
 have HR := zaa.mk hr0_0
 have HC := zaa.mk hc0_0
 have hut := Tryz.underlying24
 have hun := Tryz.underlying40
 clear hr0_0 hc0_0
 by_cases c1 : 0 < l0_0.length
 focus
  have n1 : decide ((l0_0.length : Int) < 1) = false := decide_eq_false (by omega)
  have n1b : decide (l0_0.length < 1) = false := decide_eq_false (by omega)
  by_cases c2 : l0_0.length ≤ 64
  focus
   have n2 : decide ((64 : Int) < (l0_0.length : Int)) = false := decide_eq_false (by omega)
   have n2b : decide (64 < l0_0.length) = false := decide_eq_false (by omega)
   obtain ⟨ad, B1, d1, B2, d2, rfl, hx0, hx1, hx2, hx3, hx4, hx5, _, _, _, _⟩ := zbc HR.out 0 (by omega) (by omega)
   replace hx0 := ((zad (Below.refl w.heap.size w) (.cells #[.slice (some ad) l0_0.length c0_0] 24)).cell (World.block_lt_of_cell? _ _ hx0)).trans hx0
   replace hx4 := ((zad (Below.refl w.heap.size w) (.cells #[.slice (some ad) l0_0.length c0_0] 24)).cell (World.block_lt_of_cell? _ _ hx4)).trans hx4
   replace hx0 : (w.alloc (.cells #[.slice (some ad) l0_0.length c0_0] 24)).cell? ad = some (.int .i64 (zah l0_0 0).f0) := by rw [← hx0]; congr 1
   replace hx4 : (w.alloc (.cells #[.slice (some ad) l0_0.length c0_0] 24)).cell? ⟨ad.block, ad.off + 4, none⟩ = some (.int .i64 (zah l0_0 0).f4) := by rw [← hx4]; congr 1
   have hpos : 0 < l0_0.length := c1
   have hmax : l0_0.length ≤ 9223372036854775807 := by omega
   clear hx1 hx2 hx3 hx5
   have HC1 := zaa.mk c1
   have HC2 := zaa.mk c2
   clear c1 c2
   by_cases c3 : 1 < l0_0.length
   focus
    have n3 : decide ((1 : Int) < (l0_0.length : Int)) = true := decide_eq_true (by omega)
    have n3b : decide (1 < l0_0.length) = true := decide_eq_true (by omega)
    obtain ⟨ad3, B3, d3, B4, d4, e3, hz0, hz1, hz2, hz3, hz4, hz5, _, _, _, _⟩ := zbc HR.out ((l0_0.length : Int) - 1) (by omega) (by omega)
    cases e3
    replace hz0 := ((zad (Below.refl w.heap.size w) (.cells #[.slice (some ad) l0_0.length c0_0] 24)).cell (World.block_lt_of_cell? _ _ hz0)).trans hz0
    rw [show ((l0_0.length : Int) - 1).toNat = l0_0.length - 1 by omega] at hz0
    have hp3 : 1 ≤ l0_0.length := by omega
    clear hz1 hz2 hz3 hz4 hz5
    have HC3 := zaa.mk c3
    clear c3
    by_cases c4 : (zah l0_0 ((l0_0.length : Int) - 1)).f0 = 0
    focus
     have n4 : ((zah l0_0 ((l0_0.length : Int) - 1)).f0 == 0) = true := by simpa using c4
     have HF : zaa (zbK l0_0 = false) := ⟨by unfold zbK; simp [HC3.out, c4]⟩
     rw [HF.out] at h
     have HH := zaa.mk (Option.some.inj h)
     clear h
    rotate_left 1
    focus
     have n4 : ((zah l0_0 ((l0_0.length : Int) - 1)).f0 == 0) = false := by simpa using c4
     have HC4 := zaa.mk c4
     clear c4
     by_cases c5 : (zah l0_0 0).f0 = 2
     focus
      have n5 : ((zah l0_0 0).f0 != 2) = false := by simpa using c5
      by_cases c6 : (zah l0_0 0).f4 = 1
      ·have n6 : ((zah l0_0 0).f4 != 1) = false := by simpa using c6
       have HEAD : zaa (zbK l0_0 = true) := ⟨by unfold zbK; simp [HC1.out, HC2.out, HC4.out, c5, c6]⟩
       clear c5 c6
       rw [if_pos HEAD.out] at h
       have HH := zaa.mk h
       clear h
       go_enter Tryz.func25, Tryz.ntmps25
       go_wp2
       clear hx0 hx4
       go_loopw [53] (fun v53 w' => ∃ i : Nat, i ≤ l0_0.length ∧ v53 = .int .i64 i ∧ zaa (nodesB l0_0 i = true) ∧ zaa (Below (zaH.W1 w (some ad) l0_0.length c0_0).heap.size (zaH.W1 w (some ad) l0_0.length c0_0) w')) (fun v53 _ => l0_0.length - (intOf v53).toNat)
       case atStart => exact ⟨0, Nat.zero_le _, rfl, ⟨rfl⟩, ⟨Below.refl _ _⟩⟩
       case round =>
        obtain ⟨i, hi, rfl, HE, HB⟩ := hrel
        have hmax := HC2.out
        have HB0 := zaa.mk (zam (zaH.zbd _ _ _ _) HB.out)
        have hct := zaH.zb3 HB.out
        by_cases hlt : i < l0_0.length
        ·obtain ⟨ad2, B1, d1, B2, d2, e2, hx0, hx1, hx2, hx3, hx4, hx5, hl1, hi1, hl2, hi2⟩ := zbc HR.out (i : Int) (by omega) (by omega)
         cases e2
         replace hx0 := (HB0.out.cell (World.block_lt_of_cell? _ _ hx0)).trans hx0
         replace hx1 := (HB0.out.cell (World.block_lt_of_cell? _ _ hx1)).trans hx1
         replace hx2 := (HB0.out.cell (World.block_lt_of_cell? _ _ hx2)).trans hx2
         replace hx3 := (HB0.out.cell (World.block_lt_of_cell? _ _ hx3)).trans hx3
         replace hx4 := (HB0.out.cell (World.block_lt_of_cell? _ _ hx4)).trans hx4
         replace hx5 := (HB0.out.cell (World.block_lt_of_cell? _ _ hx5)).trans hx5
         rw [Int.toNat_natCast] at hx0 hx1 hx2 hx3 hx4 hx5
         have hct2 := fun o => (World.cell?_alloc_lt wr o _ (World.block_lt_of_cell? _ _ hct)).trans hct
         have F := fun b e w' (hb : Below wr.heap.size wr w') => tree_node.calls (some ad) c0_0 l0_0 (zah l0_0 i).f0 B1 d1 (zah l0_0 i).f1 B2 d2 (zah l0_0 i).f2 (zah l0_0 i).f3 (zah l0_0 i).f4 (zah l0_0 i).f5 b w' (Kd.C_below HR.out (zam HB0.out hb)) HC.out (Kd.C_below hi1 (zam HB0.out hb)) hl1 (Kd.C_below hi2 (zam HB0.out hb)) hl2 ((nodeB_f l0_0 (zah l0_0 i)).trans (congrArg some e))
         have HF := zaa.mk F
         clear hi1 hl1 hi2 hl2 F
         cases hb : nodeB l0_0 (zah l0_0 i)
         ·have HN := zaa.mk hb
          have HG := zaa.mk (nodesB_false hlt hb)
          clear hb
          go_wp2_with (first | (go_at_call 60; refine (HF.out _ HN.out _ (zad (Below.refl _ _) _)).mono ?_; rintro e w1 ⟨rfl, hb⟩; have HB1 := zaa.mk (zam (zad HB0.out _) hb); clear hb))
          go_ret
          have := HH.out
          rw [HG.out] at this
          exact ⟨by rw [← Option.some.inj this]; rfl, HB1.out⟩
         ·have HN := zaa.mk hb
          have HG : zaa (nodesB l0_0 (i + 1) = true) := ⟨by rw [nodesB_succ, HE.out, hb]; rfl⟩
          clear hb
          go_wp2_with (first | (go_at_call 60; refine (HF.out _ HN.out _ (zad (Below.refl _ _) _)).mono ?_; rintro e w1 ⟨rfl, hb⟩; have HB1 := zaa.mk (zam (zad HB.out _) hb); clear hb))
          go_roundw
          case rel => exact ⟨i + 1, by omega, by go_num, HG, HB1⟩
          case measure => simp [intOf]; omega
        ·obtain rfl : i = l0_0.length := by omega
         have H1 := HH.out
         rw [if_pos HE.out] at H1
         obtain ⟨L, hL, H2⟩ := Option.bind_eq_some_iff.mp H1
         obtain ⟨R, hR, H3⟩ := Option.bind_eq_some_iff.mp H2
         clear H1 H2
         split at H3
         ·rename_i hlen
          have HLL := zaa.mk hL
          have HRR := zaa.mk hR
          have HLE := zaa.mk hlen
          have HEND := zaa.mk (Option.some.inj H3)
          clear hL hR hlen H3 HH
          go_wp2
          go_region_held3 (fun w' => w'.cell? ⟨w.heap.size, 0, none⟩ = some (.slice (some ad) l0_0.length c0_0)) (first | assumption | go_keep) (first | (go_at_call 61; refine (zaR.calls k (some ad) c0_0 l0_0 L _ (Kd.C_below HR.out (by repeat (first | exact HB0.out | apply zad | apply zab | apply zae | apply zaB))) HC.out HLL.out).mono ?_; rintro e w1 ⟨v, rfl, hq, hb⟩; obtain ⟨lA, lc, rfl⟩ := Kd.zbP hq; have HQ1 := zaa.mk hq; have HBB1 := zaa.mk (zam (show Below (zaH.W1 w (some ad) l0_0.length c0_0).heap.size (zaH.W1 w (some ad) l0_0.length c0_0) _ from by repeat (first | exact HB.out | apply zad | apply zab | apply zae | apply zaB)) hb); have hct1 := zaH.zb3 HBB1.out; have HB1 := zaa.mk (zam (zaH.zbd _ _ _ _) HBB1.out); clear hq hb) | (go_at_call 62; refine (zaz.calls k (some ad) c0_0 l0_0 R _ (Kd.C_below HR.out (by repeat (first | exact HB1.out | apply zad | apply zab | apply zae | apply zaB))) HC.out HRR.out).mono ?_; rintro e w2 ⟨v, rfl, hq, hb⟩; obtain ⟨rA, rc, rfl⟩ := Kd.zbP hq; have HQ2 := zaa.mk hq; have HQ3 := zaa.mk (Kd.zcj HQ1.out (zam (Below.refl _ _) hb)); have HBB2 := zaa.mk (zam HBB1.out hb); have hct2 := zaH.zb3 HBB2.out; have HB2 := zaa.mk (zam (zaH.zbd _ _ _ _) HBB2.out); clear hq hb))
          go_wp2
          try clear hct
          try clear hct1
          clear HBB1 HB1 HB HB0 HQ1
          go_loopw [69] (fun v69 w' => ∃ i : Nat, i ≤ l0_0.length ∧ v69 = .int .i64 i ∧ zaa (lastB l0_0 L R i = true) ∧ zaa (Below w2.heap.size w2 w')) (fun v69 _ => l0_0.length - (intOf v69).toNat)
          case atStart => exact ⟨0, Nat.zero_le _, rfl, ⟨rfl⟩, ⟨Below.refl _ _⟩⟩
          case round =>
           obtain ⟨i, hi, rfl, HE, HB⟩ := hrel
           have hmax := HC2.out
           have HB0 := zaa.mk (zam HB2.out HB.out)
           try clear hct2
           by_cases hlt : i < l0_0.length
           focus
            obtain ⟨ad2, B1, d1, B2, d2, e2, hx0, hx1, hx2, hx3, hx4, hx5, hl1, hi1, hl2, hi2⟩ := zbc HR.out (i : Int) (by omega) (by omega)
            cases e2
            replace hx0 := (HB0.out.cell (World.block_lt_of_cell? _ _ hx0)).trans hx0
            replace hx1 := (HB0.out.cell (World.block_lt_of_cell? _ _ hx1)).trans hx1
            replace hx2 := (HB0.out.cell (World.block_lt_of_cell? _ _ hx2)).trans hx2
            replace hx3 := (HB0.out.cell (World.block_lt_of_cell? _ _ hx3)).trans hx3
            replace hx4 := (HB0.out.cell (World.block_lt_of_cell? _ _ hx4)).trans hx4
            replace hx5 := (HB0.out.cell (World.block_lt_of_cell? _ _ hx5)).trans hx5
            rw [Int.toNat_natCast] at hx0 hx1 hx2 hx3 hx4 hx5
            have HL := zaa.mk (Kd.zcj HQ3.out HB.out)
            have HRb := zaa.mk (Kd.zcj HQ2.out HB.out)
            obtain ⟨lg, lcap, el, _, _, _, _⟩ := Kd.R_form HL.out (by rw [HLE.out.1]; omega)
            cases el
            obtain ⟨rg, rcap, er, _, _, _, _⟩ := Kd.R_form HRb.out (by rw [HLE.out.2]; omega)
            cases er
            have hLc := (Kd.R_cell 0 HL.out (i : Int) (by omega) (by rw [HLE.out.1]; omega)).1
            have hRc := (Kd.R_cell false HRb.out (i : Int) (by omega) (by rw [HLE.out.2]; omega)).1
            rw [Int.toNat_natCast] at hLc hRc
            have hll : (L.length : Int) = (l0_0.length : Int) := by rw [HLE.out.1]
            have hrl : (R.length : Int) = (l0_0.length : Int) := by rw [HLE.out.2]
            have hLc2 := fun o => (World.cell?_alloc_lt wr o _ (World.block_lt_of_cell? _ _ hLc)).trans hLc
            have hRc2 := fun o => (World.cell?_alloc_lt wr o _ (World.block_lt_of_cell? _ _ hRc)).trans hRc
            by_cases b1 : 0 < i
            focus
             have m1 : decide ((0 : Int) < (i : Int)) = true := decide_eq_true (by omega)
             have m1b : decide (0 < i) = true := decide_eq_true (by omega)
             by_cases b2 : (zah l0_0 i).f4 = rdOf 0 L i
             focus
              have m2 : ((zah l0_0 i).f4 != rdOf 0 L i) = false := by simpa using b2
              have B2 := zaa.mk b2
              clear b2
              by_cases b3 : (zah l0_0 i).f0 = 2
              focus
               have m3 : ((zah l0_0 i).f0 == 2) = true := by simpa using b3
               have B3 := zaa.mk b3
               clear b3
               by_cases b4 : 1 < (zah l0_0 i).f4
               focus
                have m4 : decide (1 < (zah l0_0 i).f4) = true := decide_eq_true b4
                have HG : zaa (zbg l0_0 L R i = true) := ⟨by unfold zbg; simp [b1, B3.out, b4]⟩
                have zmk0 := trivial
               rotate_left 1
               focus
                have m4 : decide (1 < (zah l0_0 i).f4) = false := decide_eq_false b4
                by_cases b5 : (zah l0_0 i).f4 = 0
                focus
                 have m5 : ((zah l0_0 i).f4 == 0) = true := by simpa using b5
                 have m5b : ((zah l0_0 i).f4 == 1) = false := by simp [b5]
                 have B5 := zaa.mk b5
                 clear b5 b4
                 by_cases b6 : 0 < (zah l0_0 i).f2.length
                 focus
                  have m6 : decide ((0 : Int) < ((zah l0_0 i).f2.length : Int)) = true := decide_eq_true (by omega)
                  have m6b : decide (0 < (zah l0_0 i).f2.length) = true := decide_eq_true b6
                  have HG : zaa (zbg l0_0 L R i = true) := ⟨by unfold zbg; simp [b1, B3.out, B5.out, b6]⟩
                  have zmk0 := trivial
                 rotate_left 1
                 focus
                  have m6 : decide ((0 : Int) < ((zah l0_0 i).f2.length : Int)) = false := decide_eq_false (by omega)
                  have m6b : decide (0 < (zah l0_0 i).f2.length) = false := decide_eq_false b6
                  have B4 : zaa (¬ (1 < (zah l0_0 i).f4)) := ⟨by rw [B5.out]; omega⟩
                  have HG : zaa (lastB l0_0 L R (i + 1) = true) := ⟨by rw [zb7, HE.out]; unfold zbg; simp [B2.out.symm, B3.out, B5.out, b6, B4.out]⟩
                  have zmk1 := trivial
                rotate_left 2
                focus
                 have m5 : ((zah l0_0 i).f4 == 0) = false := by simpa using b5
                 by_cases b7 : (zah l0_0 i).f4 = 1
                 ·have m7 : ((zah l0_0 i).f4 == 1) = true := by simpa using b7
                  have B7 := zaa.mk b7
                  clear b7 b5 b4
                  cases b8 : rdOf false R i
                  ·rw [b8] at hRc hRc2
                   have HG : zaa (zbg l0_0 L R i = true) := ⟨by unfold zbg; simp [b1, B3.out, B7.out, b8]⟩
                   go_wp2
                   go_quiet (fail)
                   go_wp2
                   go_ret
                   exact ⟨by rw [← HEND.out, lastB_false hlt HG.out]; rfl, by repeat (first | exact HB0.out | apply zad | apply zab | apply zae)⟩
                  ·rw [b8] at hRc hRc2
                   have HG : zaa (lastB l0_0 L R (i + 1) = true) := ⟨by rw [zb7, HE.out]; unfold zbg; simp [B2.out.symm, B3.out, B7.out, b8]⟩
                   go_wp2
                   go_quiet (fail)
                   go_wp2
                   go_roundw
                   case rel => exact ⟨i + 1, by omega, by go_num, HG, ⟨by repeat (first | exact HB.out | apply zad | apply zab | apply zae)⟩⟩
                   case measure => simp [intOf]; omega
                 focus
                  have m7 : ((zah l0_0 i).f4 == 1) = false := by simpa using b7
                  have B4 := zaa.mk b4
                  have B5 := zaa.mk b5
                  have B7 := zaa.mk b7
                  clear b4 b5 b7
                  have HG : zaa (lastB l0_0 L R (i + 1) = true) := ⟨by rw [zb7, HE.out]; unfold zbg; simp [B2.out.symm, B3.out, B4.out, B5.out, B7.out]⟩
                  have zmk1 := trivial
              rotate_left 4
              focus
               have m3 : ((zah l0_0 i).f0 == 2) = false := by simpa using b3
               have B3 := zaa.mk b3
               clear b3
               have HG : zaa (lastB l0_0 L R (i + 1) = true) := ⟨by rw [zb7, HE.out]; unfold zbg; simp [B2.out.symm, B3.out]⟩
               have zmk1 := trivial
             rotate_left 5
             focus
              have m2 : ((zah l0_0 i).f4 != rdOf 0 L i) = true := by simpa using b2
              have HG : zaa (zbg l0_0 L R i = true) := ⟨by unfold zbg; simp [b1, b2]⟩
              have zmk0 := trivial
            rotate_left 6
            focus
             have m1 : decide ((0 : Int) < (i : Int)) = false := decide_eq_false (by omega)
             have m1b : decide (0 < i) = false := decide_eq_false (by omega)
             have HG : zaa (lastB l0_0 L R (i + 1) = true) := ⟨by rw [zb7, HE.out]; unfold zbg; simp [b1]⟩
             have zmk1 := trivial
           rotate_left 7
           focus
            obtain rfl : i = l0_0.length := by omega
            have zmk2 := trivial
           all_goals
            first
            | (
             clear zmk0
             go_wp2
             go_quiet (fail)
             go_wp2
             go_ret
             exact ⟨by rw [← HEND.out, lastB_false hlt HG.out]; rfl, by repeat (first | exact HB0.out | apply zad | apply zab | apply zae)⟩
            )
            | (
             clear zmk1
             go_wp2
             go_quiet (fail)
             go_wp2
             go_roundw
             case rel => exact ⟨i + 1, by omega, by go_num, HG, ⟨by repeat (first | exact HB.out | apply zad | apply zab | apply zae)⟩⟩
             case measure => simp [intOf]; omega
            )
            | (
             clear zmk2
             go_wp2
             go_ret
             exact ⟨by rw [← HEND.out, HE.out]; rfl, HB0.out⟩
            )
         ·cases H3
      focus
       have n6 : ((zah l0_0 0).f4 != 1) = true := by simpa using c6
       have HF : zaa (zbK l0_0 = false) := ⟨by unfold zbK; simp [c6]⟩
       rw [HF.out] at h
       have HH := zaa.mk (Option.some.inj h)
       clear h
     rotate_left 1
     focus
      have n5 : ((zah l0_0 0).f0 != 2) = true := by simpa using c5
      have HF : zaa (zbK l0_0 = false) := ⟨by unfold zbK; simp [c5]⟩
      rw [HF.out] at h
      have HH := zaa.mk (Option.some.inj h)
      clear h
   rotate_left 3
   focus
    have n3 : decide ((1 : Int) < (l0_0.length : Int)) = false := decide_eq_false (by omega)
    have n3b : decide (1 < l0_0.length) = false := decide_eq_false (by omega)
    have HC3 := zaa.mk c3
    clear c3
    by_cases c5 : (zah l0_0 0).f0 = 2
    focus
     have n5 : ((zah l0_0 0).f0 != 2) = false := by simpa using c5
     by_cases c6 : (zah l0_0 0).f4 = 1
     ·have n6 : ((zah l0_0 0).f4 != 1) = false := by simpa using c6
      have HEAD : zaa (zbK l0_0 = true) := ⟨by unfold zbK; simp [HC1.out, HC2.out, HC3.out, c5, c6]⟩
      clear c5 c6
      rw [if_pos HEAD.out] at h
      have HH := zaa.mk h
      clear h
      go_enter Tryz.func25, Tryz.ntmps25
      go_wp2
      clear hx0 hx4
      go_loopw [53] (fun v53 w' => ∃ i : Nat, i ≤ l0_0.length ∧ v53 = .int .i64 i ∧ zaa (nodesB l0_0 i = true) ∧ zaa (Below (zaH.W1 w (some ad) l0_0.length c0_0).heap.size (zaH.W1 w (some ad) l0_0.length c0_0) w')) (fun v53 _ => l0_0.length - (intOf v53).toNat)
      case atStart => exact ⟨0, Nat.zero_le _, rfl, ⟨rfl⟩, ⟨Below.refl _ _⟩⟩
      case round =>
       obtain ⟨i, hi, rfl, HE, HB⟩ := hrel
       have hmax := HC2.out
       have HB0 := zaa.mk (zam (zaH.zbd _ _ _ _) HB.out)
       have hct := zaH.zb3 HB.out
       by_cases hlt : i < l0_0.length
       ·obtain ⟨ad2, B1, d1, B2, d2, e2, hx0, hx1, hx2, hx3, hx4, hx5, hl1, hi1, hl2, hi2⟩ := zbc HR.out (i : Int) (by omega) (by omega)
        cases e2
        replace hx0 := (HB0.out.cell (World.block_lt_of_cell? _ _ hx0)).trans hx0
        replace hx1 := (HB0.out.cell (World.block_lt_of_cell? _ _ hx1)).trans hx1
        replace hx2 := (HB0.out.cell (World.block_lt_of_cell? _ _ hx2)).trans hx2
        replace hx3 := (HB0.out.cell (World.block_lt_of_cell? _ _ hx3)).trans hx3
        replace hx4 := (HB0.out.cell (World.block_lt_of_cell? _ _ hx4)).trans hx4
        replace hx5 := (HB0.out.cell (World.block_lt_of_cell? _ _ hx5)).trans hx5
        rw [Int.toNat_natCast] at hx0 hx1 hx2 hx3 hx4 hx5
        have hct2 := fun o => (World.cell?_alloc_lt wr o _ (World.block_lt_of_cell? _ _ hct)).trans hct
        have F := fun b e w' (hb : Below wr.heap.size wr w') => tree_node.calls (some ad) c0_0 l0_0 (zah l0_0 i).f0 B1 d1 (zah l0_0 i).f1 B2 d2 (zah l0_0 i).f2 (zah l0_0 i).f3 (zah l0_0 i).f4 (zah l0_0 i).f5 b w' (Kd.C_below HR.out (zam HB0.out hb)) HC.out (Kd.C_below hi1 (zam HB0.out hb)) hl1 (Kd.C_below hi2 (zam HB0.out hb)) hl2 ((nodeB_f l0_0 (zah l0_0 i)).trans (congrArg some e))
        have HF := zaa.mk F
        clear hi1 hl1 hi2 hl2 F
        cases hb : nodeB l0_0 (zah l0_0 i)
        ·have HN := zaa.mk hb
         have HG := zaa.mk (nodesB_false hlt hb)
         clear hb
         go_wp2_with (first | (go_at_call 60; refine (HF.out _ HN.out _ (zad (Below.refl _ _) _)).mono ?_; rintro e w1 ⟨rfl, hb⟩; have HB1 := zaa.mk (zam (zad HB0.out _) hb); clear hb))
         go_ret
         have := HH.out
         rw [HG.out] at this
         exact ⟨by rw [← Option.some.inj this]; rfl, HB1.out⟩
        ·have HN := zaa.mk hb
         have HG : zaa (nodesB l0_0 (i + 1) = true) := ⟨by rw [nodesB_succ, HE.out, hb]; rfl⟩
         clear hb
         go_wp2_with (first | (go_at_call 60; refine (HF.out _ HN.out _ (zad (Below.refl _ _) _)).mono ?_; rintro e w1 ⟨rfl, hb⟩; have HB1 := zaa.mk (zam (zad HB.out _) hb); clear hb))
         go_roundw
         case rel => exact ⟨i + 1, by omega, by go_num, HG, HB1⟩
         case measure => simp [intOf]; omega
       ·obtain rfl : i = l0_0.length := by omega
        have H1 := HH.out
        rw [if_pos HE.out] at H1
        obtain ⟨L, hL, H2⟩ := Option.bind_eq_some_iff.mp H1
        obtain ⟨R, hR, H3⟩ := Option.bind_eq_some_iff.mp H2
        clear H1 H2
        split at H3
        ·rename_i hlen
         have HLL := zaa.mk hL
         have HRR := zaa.mk hR
         have HLE := zaa.mk hlen
         have HEND := zaa.mk (Option.some.inj H3)
         clear hL hR hlen H3 HH
         go_wp2
         go_region_held3 (fun w' => w'.cell? ⟨w.heap.size, 0, none⟩ = some (.slice (some ad) l0_0.length c0_0)) (first | assumption | go_keep) (first | (go_at_call 61; refine (zaR.calls k (some ad) c0_0 l0_0 L _ (Kd.C_below HR.out (by repeat (first | exact HB0.out | apply zad | apply zab | apply zae | apply zaB))) HC.out HLL.out).mono ?_; rintro e w1 ⟨v, rfl, hq, hb⟩; obtain ⟨lA, lc, rfl⟩ := Kd.zbP hq; have HQ1 := zaa.mk hq; have HBB1 := zaa.mk (zam (show Below (zaH.W1 w (some ad) l0_0.length c0_0).heap.size (zaH.W1 w (some ad) l0_0.length c0_0) _ from by repeat (first | exact HB.out | apply zad | apply zab | apply zae | apply zaB)) hb); have hct1 := zaH.zb3 HBB1.out; have HB1 := zaa.mk (zam (zaH.zbd _ _ _ _) HBB1.out); clear hq hb) | (go_at_call 62; refine (zaz.calls k (some ad) c0_0 l0_0 R _ (Kd.C_below HR.out (by repeat (first | exact HB1.out | apply zad | apply zab | apply zae | apply zaB))) HC.out HRR.out).mono ?_; rintro e w2 ⟨v, rfl, hq, hb⟩; obtain ⟨rA, rc, rfl⟩ := Kd.zbP hq; have HQ2 := zaa.mk hq; have HQ3 := zaa.mk (Kd.zcj HQ1.out (zam (Below.refl _ _) hb)); have HBB2 := zaa.mk (zam HBB1.out hb); have hct2 := zaH.zb3 HBB2.out; have HB2 := zaa.mk (zam (zaH.zbd _ _ _ _) HBB2.out); clear hq hb))
         go_wp2
         try clear hct
         try clear hct1
         clear HBB1 HB1 HB HB0 HQ1
         go_loopw [69] (fun v69 w' => ∃ i : Nat, i ≤ l0_0.length ∧ v69 = .int .i64 i ∧ zaa (lastB l0_0 L R i = true) ∧ zaa (Below w2.heap.size w2 w')) (fun v69 _ => l0_0.length - (intOf v69).toNat)
         case atStart => exact ⟨0, Nat.zero_le _, rfl, ⟨rfl⟩, ⟨Below.refl _ _⟩⟩
         case round =>
          obtain ⟨i, hi, rfl, HE, HB⟩ := hrel
          have hmax := HC2.out
          have HB0 := zaa.mk (zam HB2.out HB.out)
          try clear hct2
          by_cases hlt : i < l0_0.length
          focus
           obtain ⟨ad2, B1, d1, B2, d2, e2, hx0, hx1, hx2, hx3, hx4, hx5, hl1, hi1, hl2, hi2⟩ := zbc HR.out (i : Int) (by omega) (by omega)
           cases e2
           replace hx0 := (HB0.out.cell (World.block_lt_of_cell? _ _ hx0)).trans hx0
           replace hx1 := (HB0.out.cell (World.block_lt_of_cell? _ _ hx1)).trans hx1
           replace hx2 := (HB0.out.cell (World.block_lt_of_cell? _ _ hx2)).trans hx2
           replace hx3 := (HB0.out.cell (World.block_lt_of_cell? _ _ hx3)).trans hx3
           replace hx4 := (HB0.out.cell (World.block_lt_of_cell? _ _ hx4)).trans hx4
           replace hx5 := (HB0.out.cell (World.block_lt_of_cell? _ _ hx5)).trans hx5
           rw [Int.toNat_natCast] at hx0 hx1 hx2 hx3 hx4 hx5
           have HL := zaa.mk (Kd.zcj HQ3.out HB.out)
           have HRb := zaa.mk (Kd.zcj HQ2.out HB.out)
           obtain ⟨lg, lcap, el, _, _, _, _⟩ := Kd.R_form HL.out (by rw [HLE.out.1]; omega)
           cases el
           obtain ⟨rg, rcap, er, _, _, _, _⟩ := Kd.R_form HRb.out (by rw [HLE.out.2]; omega)
           cases er
           have hLc := (Kd.R_cell 0 HL.out (i : Int) (by omega) (by rw [HLE.out.1]; omega)).1
           have hRc := (Kd.R_cell false HRb.out (i : Int) (by omega) (by rw [HLE.out.2]; omega)).1
           rw [Int.toNat_natCast] at hLc hRc
           have hll : (L.length : Int) = (l0_0.length : Int) := by rw [HLE.out.1]
           have hrl : (R.length : Int) = (l0_0.length : Int) := by rw [HLE.out.2]
           have hLc2 := fun o => (World.cell?_alloc_lt wr o _ (World.block_lt_of_cell? _ _ hLc)).trans hLc
           have hRc2 := fun o => (World.cell?_alloc_lt wr o _ (World.block_lt_of_cell? _ _ hRc)).trans hRc
           by_cases b1 : 0 < i
           focus
            have m1 : decide ((0 : Int) < (i : Int)) = true := decide_eq_true (by omega)
            have m1b : decide (0 < i) = true := decide_eq_true (by omega)
            by_cases b2 : (zah l0_0 i).f4 = rdOf 0 L i
            focus
             have m2 : ((zah l0_0 i).f4 != rdOf 0 L i) = false := by simpa using b2
             have B2 := zaa.mk b2
             clear b2
             by_cases b3 : (zah l0_0 i).f0 = 2
             focus
              have m3 : ((zah l0_0 i).f0 == 2) = true := by simpa using b3
              have B3 := zaa.mk b3
              clear b3
              by_cases b4 : 1 < (zah l0_0 i).f4
              focus
               have m4 : decide (1 < (zah l0_0 i).f4) = true := decide_eq_true b4
               have HG : zaa (zbg l0_0 L R i = true) := ⟨by unfold zbg; simp [b1, B3.out, b4]⟩
               have zmk0 := trivial
              rotate_left 1
              focus
               have m4 : decide (1 < (zah l0_0 i).f4) = false := decide_eq_false b4
               by_cases b5 : (zah l0_0 i).f4 = 0
               focus
                have m5 : ((zah l0_0 i).f4 == 0) = true := by simpa using b5
                have m5b : ((zah l0_0 i).f4 == 1) = false := by simp [b5]
                have B5 := zaa.mk b5
                clear b5 b4
                by_cases b6 : 0 < (zah l0_0 i).f2.length
                focus
                 have m6 : decide ((0 : Int) < ((zah l0_0 i).f2.length : Int)) = true := decide_eq_true (by omega)
                 have m6b : decide (0 < (zah l0_0 i).f2.length) = true := decide_eq_true b6
                 have HG : zaa (zbg l0_0 L R i = true) := ⟨by unfold zbg; simp [b1, B3.out, B5.out, b6]⟩
                 have zmk0 := trivial
                rotate_left 1
                focus
                 have m6 : decide ((0 : Int) < ((zah l0_0 i).f2.length : Int)) = false := decide_eq_false (by omega)
                 have m6b : decide (0 < (zah l0_0 i).f2.length) = false := decide_eq_false b6
                 have B4 : zaa (¬ (1 < (zah l0_0 i).f4)) := ⟨by rw [B5.out]; omega⟩
                 have HG : zaa (lastB l0_0 L R (i + 1) = true) := ⟨by rw [zb7, HE.out]; unfold zbg; simp [B2.out.symm, B3.out, B5.out, b6, B4.out]⟩
                 have zmk1 := trivial
               rotate_left 2
               focus
                have m5 : ((zah l0_0 i).f4 == 0) = false := by simpa using b5
                by_cases b7 : (zah l0_0 i).f4 = 1
                ·have m7 : ((zah l0_0 i).f4 == 1) = true := by simpa using b7
                 have B7 := zaa.mk b7
                 clear b7 b5 b4
                 cases b8 : rdOf false R i
                 ·rw [b8] at hRc hRc2
                  have HG : zaa (zbg l0_0 L R i = true) := ⟨by unfold zbg; simp [b1, B3.out, B7.out, b8]⟩
                  go_wp2
                  go_quiet (fail)
                  go_wp2
                  go_ret
                  exact ⟨by rw [← HEND.out, lastB_false hlt HG.out]; rfl, by repeat (first | exact HB0.out | apply zad | apply zab | apply zae)⟩
                 ·rw [b8] at hRc hRc2
                  have HG : zaa (lastB l0_0 L R (i + 1) = true) := ⟨by rw [zb7, HE.out]; unfold zbg; simp [B2.out.symm, B3.out, B7.out, b8]⟩
                  go_wp2
                  go_quiet (fail)
                  go_wp2
                  go_roundw
                  case rel => exact ⟨i + 1, by omega, by go_num, HG, ⟨by repeat (first | exact HB.out | apply zad | apply zab | apply zae)⟩⟩
                  case measure => simp [intOf]; omega
                focus
                 have m7 : ((zah l0_0 i).f4 == 1) = false := by simpa using b7
                 have B4 := zaa.mk b4
                 have B5 := zaa.mk b5
                 have B7 := zaa.mk b7
                 clear b4 b5 b7
                 have HG : zaa (lastB l0_0 L R (i + 1) = true) := ⟨by rw [zb7, HE.out]; unfold zbg; simp [B2.out.symm, B3.out, B4.out, B5.out, B7.out]⟩
                 have zmk1 := trivial
             rotate_left 4
             focus
              have m3 : ((zah l0_0 i).f0 == 2) = false := by simpa using b3
              have B3 := zaa.mk b3
              clear b3
              have HG : zaa (lastB l0_0 L R (i + 1) = true) := ⟨by rw [zb7, HE.out]; unfold zbg; simp [B2.out.symm, B3.out]⟩
              have zmk1 := trivial
            rotate_left 5
            focus
             have m2 : ((zah l0_0 i).f4 != rdOf 0 L i) = true := by simpa using b2
             have HG : zaa (zbg l0_0 L R i = true) := ⟨by unfold zbg; simp [b1, b2]⟩
             have zmk0 := trivial
           rotate_left 6
           focus
            have m1 : decide ((0 : Int) < (i : Int)) = false := decide_eq_false (by omega)
            have m1b : decide (0 < i) = false := decide_eq_false (by omega)
            have HG : zaa (lastB l0_0 L R (i + 1) = true) := ⟨by rw [zb7, HE.out]; unfold zbg; simp [b1]⟩
            have zmk1 := trivial
          rotate_left 7
          focus
           obtain rfl : i = l0_0.length := by omega
           have zmk2 := trivial
          all_goals
           first
           | (
            clear zmk0
            go_wp2
            go_quiet (fail)
            go_wp2
            go_ret
            exact ⟨by rw [← HEND.out, lastB_false hlt HG.out]; rfl, by repeat (first | exact HB0.out | apply zad | apply zab | apply zae)⟩
           )
           | (
            clear zmk1
            go_wp2
            go_quiet (fail)
            go_wp2
            go_roundw
            case rel => exact ⟨i + 1, by omega, by go_num, HG, ⟨by repeat (first | exact HB.out | apply zad | apply zab | apply zae)⟩⟩
            case measure => simp [intOf]; omega
           )
           | (
            clear zmk2
            go_wp2
            go_ret
            exact ⟨by rw [← HEND.out, HE.out]; rfl, HB0.out⟩
           )
        ·cases H3
     focus
      have n6 : ((zah l0_0 0).f4 != 1) = true := by simpa using c6
      have HF : zaa (zbK l0_0 = false) := ⟨by unfold zbK; simp [c6]⟩
      rw [HF.out] at h
      have HH := zaa.mk (Option.some.inj h)
      clear h
    rotate_left 1
    focus
     have n5 : ((zah l0_0 0).f0 != 2) = true := by simpa using c5
     have HF : zaa (zbK l0_0 = false) := ⟨by unfold zbK; simp [c5]⟩
     rw [HF.out] at h
     have HH := zaa.mk (Option.some.inj h)
     clear h
  rotate_left 5
  focus
   have n2 : decide ((64 : Int) < (l0_0.length : Int)) = true := decide_eq_true (by omega)
   have n2b : decide (64 < l0_0.length) = true := decide_eq_true (by omega)
   have HF : zaa (zbK l0_0 = false) := ⟨by unfold zbK; simp [c2]⟩
   rw [HF.out] at h
   have HH := zaa.mk (Option.some.inj h)
   clear h
 rotate_left 6
 focus
  have n1 : decide ((l0_0.length : Int) < 1) = true := decide_eq_true (by omega)
  have n1b : decide (l0_0.length < 1) = true := decide_eq_true (by omega)
  have HF : zaa (zbK l0_0 = false) := ⟨by unfold zbK; simp [c1]⟩
  rw [HF.out] at h
  have HH := zaa.mk (Option.some.inj h)
  clear h
 all_goals
  go_enter Tryz.func25, Tryz.ntmps25
  go_wp2
  go_ret
  exact ⟨by rw [← HH.out]; rfl, zaH.zbd _ _ _ _⟩
theorem tree_node_ok (l : List S40) (x : S40) (hx : FitsN x) : nodeB l x = true ↔ zb6 x ∧ (x.f0 = 0 → True) ∧ (x.f0 = 2 → ∀ i, i < x.f2.length → zbJ l (zau x.f2 (i : Int))) := by
 have h := nodeB_f l x
 have hw : wrap64 ((x.f1.length : Int) + (x.f2.length : Int)) = 0 ↔ x.f1 = [] ∧ x.f2 = [] := by
  have := hx.1; have := hx.2
  rw [show wrap64 ((x.f1.length : Int) + (x.f2.length : Int)) = (x.f1.length : Int) + (x.f2.length : Int) by unfold wrap64; omega, ← List.length_eq_zero_iff, ← List.length_eq_zero_iff]
  omega
 have hl1 : (x.f1.length : Int) = 0 ↔ x.f1 = [] := by rw [← List.length_eq_zero_iff]; omega
 have hl2 : (x.f2.length : Int) = 0 ↔ x.f2 = [] := by rw [← List.length_eq_zero_iff]; omega
 obtain ⟨tb, ht, htp⟩ := tree_time_ x.f5
 unfold tree_node.f at h
 by_cases c0 : x.f0 = 0
 ·rw [if_pos c0] at h
  have : zb6 x ↔ x = z40 := by
   unfold zb6
   constructor
   ·rintro (h | h | h | h)
    ·exact h.2
    all_goals have := h.1; omega
   ·exact fun h => .inl ⟨c0, h⟩
  rw [this, node_ext]
  show _ ↔ (x.f0 = 0 ∧ x.f1 = [] ∧ x.f2 = [] ∧ x.f3 = ⟨#[]⟩ ∧ x.f4 = 0 ∧ x.f5 = 0) ∧ _
  by_cases c1 : wrap64 ((x.f1.length : Int) + (x.f2.length : Int)) = 0
  ·rw [if_pos c1] at h
   have c1' := hw.1 c1
   by_cases c2 : x.f3.toList = ([] : List UInt8)
   ·rw [if_pos c2] at h
    have c2' := zcv.1 c2
    by_cases c3 : x.f4 = 0
    ·rw [if_pos c3] at h
     rw [← Option.some.inj h, beq_iff_eq]
     exact ⟨fun h => ⟨⟨c0, c1'.1, c1'.2, c2', c3, h⟩, fun _ => trivial, fun h => by omega⟩, fun h => h.1.2.2.2.2.2⟩
    ·rw [if_neg c3] at h
     rw [← Option.some.inj h]
     exact ⟨fun h => by (cases h), fun h => absurd h.1.2.2.2.2.1 c3⟩
   ·rw [if_neg c2] at h
    rw [← Option.some.inj h]
    exact ⟨fun h => by (cases h), fun h => absurd (zcv.2 h.1.2.2.2.1) c2⟩
  ·rw [if_neg c1] at h
   rw [← Option.some.inj h]
   exact ⟨fun h => by (cases h), fun h => absurd (hw.2 ⟨h.1.2.1, h.1.2.2.1⟩) c1⟩
 rw [if_neg c0] at h
 by_cases c1 : x.f0 = 1
 ·rw [if_pos c1] at h
  have : zb6 x ↔ TimeP x.f5 ∧ x.f1.length ≤ 16384 ∧ x.f2 = [] ∧ x.f3 = ⟨#[]⟩ := by
   unfold zb6
   constructor
   ·rintro (h | h | h | h)
    ·have := h.1; omega
    ·exact h.2
    all_goals have := h.1; omega
   ·exact fun h => .inr (.inl ⟨c1, h⟩)
  rw [this]
  by_cases c2 : (x.f1.length : Int) ≤ 16384
  ·rw [if_pos c2] at h
   by_cases c3 : (x.f2.length : Int) = 0
   ·rw [if_pos c3] at h
    by_cases c4 : x.f3.toList = ([] : List UInt8)
    ·rw [if_pos c4, ht] at h
     rw [← Option.some.inj (show some tb = _ from h), htp]
     exact ⟨fun h => ⟨⟨h, by omega, hl2.1 c3, zcv.1 c4⟩, fun _ => trivial, fun h => by omega⟩, fun h => h.1.1⟩
    ·rw [if_neg c4] at h
     rw [← Option.some.inj h]
     exact ⟨fun h => by (cases h), fun h => absurd (zcv.2 h.1.2.2.2) c4⟩
   ·rw [if_neg c3] at h
    rw [← Option.some.inj h]
    exact ⟨fun h => by (cases h), fun h => absurd (hl2.2 h.1.2.2.1) c3⟩
  ·rw [if_neg c2] at h
   rw [← Option.some.inj h]
   exact ⟨fun h => by (cases h), fun h => by have := h.1.2.1; omega⟩
 rw [if_neg c1] at h
 by_cases c2 : x.f0 = 2
 ·rw [if_pos c2] at h
  have : zb6 x ↔ TimeP x.f5 ∧ x.f2.length ≤ 64 ∧ (∀ i, i < x.f2.length → okR x.f2 i) ∧ x.f1 = [] ∧ x.f3 = ⟨#[]⟩ := by
   unfold zb6
   constructor
   ·rintro (h | h | h | h)
    ·have := h.1; omega
    ·have := h.1; omega
    ·exact h.2
    ·have := h.1; omega
   ·exact fun h => .inr (.inr (.inl ⟨c2, h⟩))
  rw [this]
  by_cases c3 : (x.f1.length : Int) = 0
  ·rw [if_pos c3] at h
   by_cases c4 : x.f3.toList = ([] : List UInt8)
   ·rw [if_pos c4, ht] at h
    rw [Option.bind_some] at h
    cases tb with
    | true =>
     rw [if_pos rfl] at h
     have h' := Option.some.inj (show some (okNames l x.f2 x.f2.length && decide ((x.f2.length : Int) ≤ 64)) = _ from h)
     rw [← h', Bool.and_eq_true, okNames_iff, decide_eq_true_eq]
     exact ⟨fun h => ⟨⟨htp.1 rfl, by omega, fun i hi => (h.1 i hi).1, hl1.1 c3, zcv.1 c4⟩, fun _ => trivial, fun _ i hi => (h.1 i hi).2⟩, fun h => ⟨fun i hi => ⟨h.1.2.2.1 i hi, h.2.2 c2 i hi⟩, by have := h.1.2.1; omega⟩⟩
    | false =>
     rw [if_neg (by simp)] at h
     rw [← Option.some.inj h]
     exact ⟨fun h => by (cases h), fun h => absurd (htp.2 h.1.1) (by simp)⟩
   ·rw [if_neg c4] at h
    rw [← Option.some.inj h]
    exact ⟨fun h => by (cases h), fun h => absurd (zcv.2 h.1.2.2.2.2) c4⟩
  ·rw [if_neg c3] at h
   rw [← Option.some.inj h]
   exact ⟨fun h => by (cases h), fun h => absurd (hl1.2 h.1.2.2.2.1) c3⟩
 rw [if_neg c2] at h
 by_cases c3 : x.f0 = 3
 ·rw [if_pos c3] at h
  have : zb6 x ↔ TimeP x.f5 ∧ x.f3 ≠ ⟨#[]⟩ ∧ x.f3.size ≤ 512 ∧ (0 : UInt8) ∉ bytesOf x.f3 ∧ x.f1 = [] ∧ x.f2 = [] := by
   unfold zb6
   constructor
   ·rintro (h | h | h | h)
    ·have := h.1; omega
    ·have := h.1; omega
    ·have := h.1; omega
    ·exact h.2
   ·exact fun h => .inr (.inr (.inr ⟨c3, h⟩))
  rw [this]
  have htg : ∃ b, zcc.f x.f3 = some b ∧ (b = true ↔ x.f3 ≠ ⟨#[]⟩ ∧ x.f3.size ≤ 512 ∧ (0 : UInt8) ∉ bytesOf x.f3) := by
   unfold zcc.f
   by_cases d1 : x.f3.toList = ([] : List UInt8)
   ·exact ⟨_, if_pos d1, by constructor <;> intro h; cases h; exact absurd (zcv.1 d1) h.1⟩
   ·rw [if_neg d1]
    by_cases d2 : (x.f3.size : Int) ≤ 512
    ·rw [if_pos d2]
     refine ⟨decide (Lib.indexByte (bytesOf x.f3) 0 < 0), rfl, ?_⟩
     have := idx_ge 0 (bytesOf x.f3)
     rw [decide_eq_true_eq]
     constructor
     ·exact fun h => ⟨fun e => d1 (zcv.2 e), by omega, fun hm => by have := this.2 hm; omega⟩
     ·intro h
      by_cases hz : 0 ≤ Lib.indexByte (bytesOf x.f3) 0
      ·exact absurd (this.1 hz) h.2.2
      ·omega
    ·rw [if_neg d2]
     exact ⟨false, rfl, by constructor <;> intro h; cases h; have := h.2.1; omega⟩
  obtain ⟨gb, hg, hgp⟩ := htg
  by_cases c4 : wrap64 ((x.f1.length : Int) + (x.f2.length : Int)) = 0
  ·rw [if_pos c4, hg, Option.bind_some] at h
   cases gb with
   | true =>
    rw [if_pos rfl, ht] at h
    rw [← Option.some.inj (show some tb = _ from h), htp]
    have := hgp.1 rfl
    exact ⟨fun h => ⟨⟨h, this.1, this.2.1, this.2.2, (hw.1 c4).1, (hw.1 c4).2⟩, fun _ => trivial, fun h => by omega⟩, fun h => h.1.1⟩
   | false =>
    rw [if_neg (by simp)] at h
    rw [← Option.some.inj h]
    exact ⟨fun h => by (cases h), fun h => absurd (hgp.2 ⟨h.1.2.1, h.1.2.2.1, h.1.2.2.2.1⟩) (by simp)⟩
  ·rw [if_neg c4] at h
   rw [← Option.some.inj h]
   exact ⟨fun h => by (cases h), fun h => absurd (hw.2 ⟨h.1.2.2.2.2.1, h.1.2.2.2.2.2⟩) c4⟩
 ·rw [if_neg c3] at h
  rw [← Option.some.inj h]
  refine ⟨fun h => by (cases h), fun h => ?_⟩
  rcases h.1 with h | h | h | h <;> (have := h.1; omega)
theorem page_names (x : S40) (hx : FitsN x) (y : S40) (hn : ∀ z ∈ x.f2, z.f0.size < 9223372036854775807) (ey1 : y.f1 = []) : ∀ (d i : Nat) (b : Bool), i + d = x.f2.length →
  EvB (fun k => zaq.l0 k b (i : Int) x.f0 x.f1 x.f2 x.f3 x.f4 x.f5 y.f0 y.f2 y.f3 y.f4 y.f5) (b = true ∧ (∀ j, i ≤ j → j < x.f2.length → okR x.f2 j) ∧ x = y)
 | 0, i, b, h => by
  cases b with
  | true =>
   refine EvB.step ((EvB.same (eqNode x y hx)).iff ⟨fun h' => ⟨rfl, fun j h1 h2 => by omega, h'⟩, fun h' => h'.2.2⟩) (fun k => ?_)
   rw [zaq.l0, if_neg (by omega), if_pos rfl]
   unfold eqNodeF; rw [ey1]
  | false =>
   refine EvB.step (EvB.no (fun h => by (cases h.1))) (fun k => ?_)
   rw [zaq.l0, if_neg (by omega), if_neg (by simp)]
 | d + 1, i, b, h => by
  cases b with
  | false =>
   refine EvB.step (EvB.no (fun h => by (cases h.1))) (fun k => ?_)
   rw [zaq.l0, if_pos (by omega), if_neg (by simp)]
  | true =>
   have hsz : (zau x.f2 (i : Int)).f0.size < 9223372036854775807 := by rw [zbY x.f2 i (by omega)]; exact hn _ (List.getElem_mem _)
   have hpn := page_name (zau x.f2 (i : Int)).f0 hsz
   by_cases c0 : nameP (zau x.f2 (i : Int)).f0 = 0
   ·rw [c0] at hpn
    by_cases c1 : i = 0
    ·subst c1
     obtain ⟨r, h1, h2⟩ := page_names x hx y hn ey1 d 1 true (by omega)
     refine ⟨r, Ev.step (f := fun k => (zat.f k (zau x.f2 ((0 : Nat) : Int)).f0).bind fun t => if t = 0 then zaq.l0 k true ((1 : Nat) : Int) x.f0 x.f1 x.f2 x.f3 x.f4 x.f5 y.f0 y.f2 y.f3 y.f4 y.f5 else zaq.l0 k false ((1 : Nat) : Int) x.f0 x.f1 x.f2 x.f3 x.f4 x.f5 y.f0 y.f2 y.f3 y.f4 y.f5) (fun k => ?_) (Ev.bind (f := fun k t => if t = 0 then zaq.l0 k true ((1 : Nat) : Int) x.f0 x.f1 x.f2 x.f3 x.f4 x.f5 y.f0 y.f2 y.f3 y.f4 y.f5 else zaq.l0 k false ((1 : Nat) : Int) x.f0 x.f1 x.f2 x.f3 x.f4 x.f5 y.f0 y.f2 y.f3 y.f4 y.f5) hpn (Ev.congr (fun k => if_pos rfl) h1)), h2.trans ?_⟩
     ·rw [zaq.l0, if_pos (by omega), if_pos rfl, if_pos (by omega)]
      congr 1; funext t
      rw [if_pos (show ((0 : Nat) : Int) = 0 from rfl), show wrap64 (((0 : Nat) : Int) + 1) = ((1 : Nat) : Int) by unfold wrap64; omega]
     ·exact ⟨fun h => ⟨rfl, fun j h3 h4 => by
       by_cases e : j = 0
       ·subst e; exact ⟨c0, .inl rfl⟩
       ·exact h.2.1 j (by omega) h4, h.2.2⟩, fun h => ⟨rfl, fun j h3 h4 => h.2.1 j (by omega) h4, h.2.2⟩⟩
    ·have hw1 : wrap64 ((i : Int) - 1) = (i : Int) - 1 := by have := hx.2; unfold wrap64; omega
     obtain ⟨r, h1, h2⟩ := page_names x hx y hn ey1 d (i + 1) (Op.bytesLess (zau x.f2 ((i : Int) - 1)).f0.toList (zau x.f2 (i : Int)).f0.toList) (by omega)
     refine ⟨r, Ev.step (f := fun k => (zat.f k (zau x.f2 (i : Int)).f0).bind fun t => if t = 0 then zaq.l0 k (Op.bytesLess (zau x.f2 ((i : Int) - 1)).f0.toList (zau x.f2 (i : Int)).f0.toList) ((i + 1 : Nat) : Int) x.f0 x.f1 x.f2 x.f3 x.f4 x.f5 y.f0 y.f2 y.f3 y.f4 y.f5 else zaq.l0 k false ((i + 1 : Nat) : Int) x.f0 x.f1 x.f2 x.f3 x.f4 x.f5 y.f0 y.f2 y.f3 y.f4 y.f5) (fun k => ?_) (Ev.bind (f := fun k t => if t = 0 then zaq.l0 k (Op.bytesLess (zau x.f2 ((i : Int) - 1)).f0.toList (zau x.f2 (i : Int)).f0.toList) ((i + 1 : Nat) : Int) x.f0 x.f1 x.f2 x.f3 x.f4 x.f5 y.f0 y.f2 y.f3 y.f4 y.f5 else zaq.l0 k false ((i + 1 : Nat) : Int) x.f0 x.f1 x.f2 x.f3 x.f4 x.f5 y.f0 y.f2 y.f3 y.f4 y.f5) hpn (Ev.congr (fun k => if_pos rfl) h1)), h2.trans ?_⟩
     ·rw [zaq.l0, if_pos (by omega), if_pos rfl, if_pos (by omega)]
      congr 1; funext t
      rw [if_neg (show ¬ (i : Int) = 0 by omega), hw1, if_pos (show 0 ≤ (i : Int) - 1 by omega), if_pos (show (i : Int) - 1 < (x.f2.length : Int) by omega), up64 (by have := hx.2; omega)]
     ·constructor
      ·intro h
       refine ⟨rfl, fun j h3 h4 => ?_, h.2.2⟩
       by_cases e : j = i
       ·subst e; exact ⟨c0, .inr h.1⟩
       ·exact h.2.1 j (by omega) h4
      ·intro h
       exact ⟨(h.2.1 i (Nat.le_refl _) (by omega)).2.resolve_left c1, fun j h3 h4 => h.2.1 j (by omega) h4, h.2.2⟩
   ·obtain ⟨r, h1, h2⟩ := page_names x hx y hn ey1 d (i + 1) false (by omega)
    obtain rfl : r = false := by
     cases r with
     | false => rfl
     | true => have := (h2.1 rfl).1; cases this
    refine ⟨false, Ev.step (f := fun k => (zat.f k (zau x.f2 (i : Int)).f0).bind fun t => if t = 0 then (if (i : Int) = 0 then zaq.l0 k true (wrap64 ((i : Int) + 1)) x.f0 x.f1 x.f2 x.f3 x.f4 x.f5 y.f0 y.f2 y.f3 y.f4 y.f5 else (if 0 ≤ (wrap64 ((i : Int) - 1)) then (if (wrap64 ((i : Int) - 1)) < (x.f2.length : Int) then zaq.l0 k (Op.bytesLess (zau x.f2 (wrap64 ((i : Int) - 1))).f0.toList (zau x.f2 (i : Int)).f0.toList) (wrap64 ((i : Int) + 1)) x.f0 x.f1 x.f2 x.f3 x.f4 x.f5 y.f0 y.f2 y.f3 y.f4 y.f5 else none) else none)) else zaq.l0 k false (wrap64 ((i : Int) + 1)) x.f0 x.f1 x.f2 x.f3 x.f4 x.f5 y.f0 y.f2 y.f3 y.f4 y.f5) (fun k => ?_) (Ev.bind (f := fun k t => if t = 0 then (if (i : Int) = 0 then zaq.l0 k true (wrap64 ((i : Int) + 1)) x.f0 x.f1 x.f2 x.f3 x.f4 x.f5 y.f0 y.f2 y.f3 y.f4 y.f5 else (if 0 ≤ (wrap64 ((i : Int) - 1)) then (if (wrap64 ((i : Int) - 1)) < (x.f2.length : Int) then zaq.l0 k (Op.bytesLess (zau x.f2 (wrap64 ((i : Int) - 1))).f0.toList (zau x.f2 (i : Int)).f0.toList) (wrap64 ((i : Int) + 1)) x.f0 x.f1 x.f2 x.f3 x.f4 x.f5 y.f0 y.f2 y.f3 y.f4 y.f5 else none) else none)) else zaq.l0 k false (wrap64 ((i : Int) + 1)) x.f0 x.f1 x.f2 x.f3 x.f4 x.f5 y.f0 y.f2 y.f3 y.f4 y.f5) hpn (Ev.congr (fun k => ?_) h1)), ?_⟩
    ·rw [zaq.l0, if_pos (by omega), if_pos rfl, if_pos (by omega)]
    ·rw [if_neg c0, up64 (by have := hx.2; omega)]
    ·exact ⟨fun h => by (cases h), fun h => absurd (h.2.1 i (Nat.le_refl _) (by omega)).1 c0⟩
def rNames (l : List S40) : List S50 → List Bool → Bool → Option (List Bool × Bool)
 | [], s, m => some (s, m)
 | x :: r, s, m => if 0 ≤ x.f1 ∧ x.f1 < (l.length : Int) ∧ x.f1 < 64 then (if newDir l s x.f1 = true then rNames l r (s.set x.f1.toNat true) true else rNames l r s m) else none
theorem rNames_drop (l : List S40) (ns : List S50) (i : Nat) (h : i < ns.length) (s : List Bool) (m : Bool) : rNames l (ns.drop i) s m = if 0 ≤ (zau ns i).f1 ∧ (zau ns i).f1 < (l.length : Int) ∧ (zau ns i).f1 < 64 then (if newDir l s (zau ns i).f1 = true then rNames l (ns.drop (i + 1)) (s.set (zau ns i).f1.toNat true) true else rNames l (ns.drop (i + 1)) s m) else none := by
 rw [List.drop_eq_getElem_cons h]
 have e : zau ns (i : Int) = ns[i] := by simp [zau, List.getD, List.getElem?_eq_getElem h]
 rw [rNames, e]
def rNodes (l : List S40) : Nat → Nat → List Bool → Bool → Option (List Bool × Bool)
 | 0, _, s, m => some (s, m)
 | d + 1, i, s, m => if rdOf false s (i : Int) = true then (rNames l (zah l (i : Int)).f2 s m).bind fun st => rNodes l d (i + 1) st.1 st.2 else rNodes l d (i + 1) s m
def rLoop (l : List S40) : Nat → List Bool → Bool → Option (List Bool)
 | 0, _, _ => none
 | k + 1, s, m => if m = true then (rNodes l l.length 0 s false).bind fun st => rLoop l k st.1 st.2 else some s
theorem rLoop_mono (l : List S40) : ∀ k s m, LeO (rLoop l k s m) (rLoop l (k + 1) s m)
 | 0, _, _ => fun _ h => by simp [rLoop] at h
 | k + 1, s, m => by
  unfold rLoop
  refine LeO.ite (LeO.bind (LeO.refl _) fun st => ?_) (LeO.refl _)
  exact rLoop_mono l k st.1 st.2
def zcl (l : List S40) (s : List Bool) (i : Nat) : Bool := ((zah l (i : Int)).f0 == 2) && (((zah l (i : Int)).f4 == 1) && !(rdOf false s (i : Int)))
def allSeen (l : List S40) (s : List Bool) (n : Nat) : Bool := (List.range n).all fun i => !zcl l s i
theorem allSeen_succ (l : List S40) (s : List Bool) (n : Nat) : allSeen l s (n + 1) = (allSeen l s n && !zcl l s n) := by
 unfold allSeen; rw [List.range_succ, List.all_append]; simp
theorem allSeen_false {l : List S40} {s : List Bool} {i n : Nat} (hi : i < n) (h : zcl l s i = true) : allSeen l s n = false := by
 unfold allSeen; rw [List.all_eq_false]; exact ⟨i, List.mem_range.2 hi, by simp [h]⟩
def zax.f (k : Nat) (l0_0 : List S40) : Option Bool := if l0_0.length ≤ 64 then (rLoop l0_0 k ((List.replicate 64 false).set 0 true) true).bind fun s => some (allSeen l0_0 s l0_0.length) else none
theorem zax.mono : ∀ a0 k, LeO (zax.f k a0) (zax.f (k + 1) a0) := fun a0 k => LeO.ite (LeO.bind (rLoop_mono _ _ _ _) fun _ => LeO.refl _) (LeO.refl _)
theorem rdOf_set_self (s : List Bool) (i j : Nat) (h : rdOf false s (j : Int) = true) (hi : i < s.length) : rdOf false (s.set i true) (j : Int) = true := by
 have e : ∀ (q : List Bool), rdOf false q (j : Int) = q.getD j false := fun _ => rfl
 rw [e] at h ⊢
 rw [List.getD_eq_getElem?_getD] at h ⊢
 rw [List.getElem?_set]
 by_cases e2 : i = j
 ·subst e2; simp [hi]
 ·rw [if_neg e2]; exact h
def seenA (s : List Bool) : Array Value := (s.map Value.bool).toArray
theorem seenA_cell (s : List Bool) (i : Int) (h0 : 0 ≤ i) (h1 : i < (s.length : Int)) : (seenA s)[i.toNat]? = some (.bool (rdOf false s i)) := by
 have hh : i.toNat < s.length := by omega
 simp [seenA, rdOf, List.getElem?_map, List.getElem?_eq_getElem hh, List.getD_eq_getElem?_getD]
theorem seenA_set (s : List Bool) (i : Nat) : (seenA s).setIfInBounds i (.bool true) = seenA (s.set i true) := by
 apply Array.ext'
 simp [seenA, List.map_set]
def zax.W1 (w : World) (A : Option Addr) (n c : Nat) : World := w.alloc (.cells #[.slice A n c] 24)
theorem zax.zbd (w : World) (A : Option Addr) (n c : Nat) : Below w.heap.size w (zax.W1 w A n c) := zad (Below.refl _ _) _
theorem zax.W1_size (w : World) (A : Option Addr) (n c : Nat) : (zax.W1 w A n c).heap.size = w.heap.size + 1 := World.size_alloc _ _
theorem zax.zb3 {w w' : World} {A : Option Addr} {n c : Nat} (h : Below (zax.W1 w A n c).heap.size (zax.W1 w A n c) w') : w'.cell? ⟨w.heap.size, 0, none⟩ = some (.slice A n c) :=
 (zac ((h.block w.heap.size (by show _ < (w.alloc _).heap.size; simp)).trans (zbb w _)) 0).trans rfl
set_option maxHeartbeats 4000000 in
set_option maxRecDepth 100000 in
theorem zax.calls (k : Nat) (A0_0 : Option Addr) (c0_0 : Nat) (l0_0 : List S40) (r : Bool) (w : World) (hr0_0 : Kd.C k40 w A0_0 l0_0.length l0_0) (hc0_0 : l0_0.length ≤ c0_0) (h : zax.f k l0_0 = some r) :
  Calls Tryz.prog 24 #[.agg #[.slice A0_0 l0_0.length c0_0]] w fun e w' => e = .returned (.bool r) ∧ Below w.heap.size w w' := by
 unfold zax.f at h
 split at h
 ·rename_i hm
  obtain ⟨R, hR, hE⟩ := Option.bind_eq_some_iff.mp h
  have HH := zaa.mk hR
  have HRES := zaa.mk (Option.some.inj hE)
  have HL := zaa.mk hm
  have HR := zaa.mk (Kd.C_below hr0_0 (zax.zbd w A0_0 l0_0.length c0_0))
  have hut := Tryz.underlying24
  clear h hr0_0 hm hR hE
  go_enter Tryz.func24, Tryz.ntmps24
  go_wp2
  go_loopg [4] k (fun kq v4 w' => ∃ (s : List Bool) (m : Bool), v4 = .bool m ∧ zaa (rLoop l0_0 kq s m = some R) ∧ zaa (kq ≤ k) ∧ zaa (s.length = 64) ∧ zaa (w'.heap[w.heap.size + 1]? = some (.cells (seenA s) 93 (0, 0))) ∧ zaa (Below (zax.W1 w A0_0 l0_0.length c0_0).heap.size (zax.W1 w A0_0 l0_0.length c0_0) w'))
  case atStart =>
   exact ⟨_, _, rfl, HH, ⟨Nat.le_refl _⟩, ⟨by kernel_rfl⟩, ⟨by have := zbb (w.alloc (.cells #[.slice A0_0 l0_0.length c0_0] 24)) (.cells (seenA ((List.replicate 64 false).set 0 true)) 93); rw [World.size_alloc] at this; exact this⟩, ⟨zad (Below.refl _ _) _⟩⟩
  case round =>
   clear HH
   obtain ⟨s, m, rfl, HE, HK, HSL, HG, HB⟩ := hrel
   cases gk with
   | zero => exact absurd HE.out (by simp [rLoop])
   | succ k1 =>
    have HE' := HE.out
    rw [rLoop] at HE'
    cases m with
    | false =>
     rw [if_neg (by simp)] at HE'
     obtain rfl := Option.some.inj HE'
     clear HE' HE HK
     have hct := zax.zb3 HB.out
     go_wp2
     go_loop [8] (fun v8 => ∃ i : Nat, i ≤ l0_0.length ∧ v8 = .int .i64 i ∧ zaa (allSeen l0_0 s i = true)) (fun v8 => l0_0.length - (intOf v8).toNat)
     case atStart => exact ⟨0, Nat.zero_le _, rfl, ⟨rfl⟩⟩
     case round =>
      obtain ⟨i, hi, rfl, HA⟩ := hrel
      have hmax : l0_0.length ≤ 9223372036854775807 := by have := HL.out; omega
      by_cases hlt : i < l0_0.length
      ·obtain ⟨na, A1, c1, A2, c2, rfl, hx0, hx1, hx2, hx3, hx4, hx5, hl1, hi1, hl2, hi2⟩ := zbc HR.out (i : Int) (by omega) (by omega)
       clear hx1 hx2 hx3 hx5 hl1 hi1 hl2 hi2
       replace hx0 := (HB.out.cell (World.block_lt_of_cell? _ _ hx0)).trans hx0
       replace hx4 := (HB.out.cell (World.block_lt_of_cell? _ _ hx4)).trans hx4
       rw [Int.toNat_natCast] at hx0 hx4
       have hs0 := (zac HG.out i).trans (seenA_cell s (i : Int) (by omega) (by have := HSL.out; have := HL.out; omega))
       have h64 : i < 64 := by have := HL.out; omega
       have HS := zaa.mk (allSeen_succ l0_0 s i)
       have HF := zaa.mk (fun h => allSeen_false (l := l0_0) (s := s) hlt h)
       by_cases ck : (zah l0_0 i).f0 = 2
       ·have hk : ((zah l0_0 i).f0 == 2) = true := by simpa using ck
        by_cases cl : (zah l0_0 i).f4 = 1
        ·have hl : ((zah l0_0 i).f4 == 1) = true := by simpa using cl
         cases hsn : rdOf false s (i : Int)
         ·have HN : zaa (zcl l0_0 s i = true) := ⟨by unfold zcl; rw [hk, hl, hsn]; rfl⟩
          rw [hsn] at hs0
          clear hsn ck cl
          go_wp2
          go_ret
          exact ⟨by rw [← HRES.out, HF.out HN.out]; rfl, zam (zax.zbd _ _ _ _) HB.out⟩
         ·have HN : zaa (zcl l0_0 s i = false) := ⟨by unfold zcl; rw [hk, hl, hsn]; rfl⟩
          rw [hsn] at hs0
          clear hsn ck cl
          go_wp2
          go_round
          case rel => exact ⟨i + 1, by omega, by go_num, ⟨by rw [HS.out, HA.out, HN.out]; rfl⟩⟩
          case measure => simp [intOf]; omega
        ·have hl : ((zah l0_0 i).f4 == 1) = false := by simpa using cl
         have HN : zaa (zcl l0_0 s i = false) := ⟨by unfold zcl; rw [hk, hl]; rfl⟩
         clear ck cl
         go_wp2
         go_round
         case rel => exact ⟨i + 1, by omega, by go_num, ⟨by rw [HS.out, HA.out, HN.out]; rfl⟩⟩
         case measure => simp [intOf]; omega
       ·have hk : ((zah l0_0 i).f0 == 2) = false := by simpa using ck
        have HN : zaa (zcl l0_0 s i = false) := ⟨by unfold zcl; rw [hk]; rfl⟩
        clear ck
        go_wp2
        go_round
        case rel => exact ⟨i + 1, by omega, by go_num, ⟨by rw [HS.out, HA.out, HN.out]; rfl⟩⟩
        case measure => simp [intOf]; omega
      ·obtain rfl : i = l0_0.length := by omega
       go_wp2
       go_ret
       exact ⟨by rw [← HRES.out, HA.out]; rfl, zam (zax.zbd _ _ _ _) HB.out⟩
    | true =>
     rw [if_pos rfl] at HE'
     obtain ⟨st, hst, hrec⟩ := Option.bind_eq_some_iff.mp HE'
     have HND := zaa.mk hst
     have HRE := zaa.mk hrec
     clear HE' HE hst hrec
     have hct := zax.zb3 HB.out
     go_wp2
     go_loopw [4, 5] (fun v4 v5 w' => ∃ (i : Nat) (m : Bool) (s : List Bool), i ≤ l0_0.length ∧ v5 = .int .i64 i ∧ v4 = .bool m ∧ zaa (rNodes l0_0 (l0_0.length - i) i s m = some st) ∧ zaa (s.length = 64) ∧ zaa (w'.heap[w.heap.size + 1]? = some (.cells (seenA s) 93 (0, 0))) ∧ zaa (Below (zax.W1 w A0_0 l0_0.length c0_0).heap.size (zax.W1 w A0_0 l0_0.length c0_0) w')) (fun _ v5 _ => l0_0.length - (intOf v5).toNat)
     case atStart => exact ⟨0, _, _, Nat.zero_le _, rfl, rfl, HND, HSL, HG, HB⟩
     case round =>
      clear HND HSL HG HB hct
      obtain ⟨i, m, s, hi, rfl, rfl, HND, HSL, HG, HB⟩ := hrel
      have hct := zax.zb3 HB.out
      have hmax : l0_0.length ≤ 9223372036854775807 := by have := HL.out; omega
      by_cases hlt : i < l0_0.length
      ·obtain ⟨d0, hd0⟩ : ∃ d0, l0_0.length - i = d0 + 1 := ⟨l0_0.length - i - 1, by omega⟩
       have hd1 : l0_0.length - (i + 1) = d0 := by omega
       have HNX : zaa (∃ st1 : List Bool × Bool, (if rdOf false s (i : Int) = true then rNames l0_0 (zah l0_0 (i : Int)).f2 s m else some (s, m)) = some st1 ∧ rNodes l0_0 (l0_0.length - (i + 1)) (i + 1) st1.1 st1.2 = some st) := by
        have hd := HND.out
        rw [hd0, rNodes] at hd
        rw [hd1]
        by_cases hb : rdOf false s (i : Int) = true
        ·rw [if_pos hb] at hd ⊢
         exact ⟨Option.bind_eq_some_iff.mp hd⟩
        ·rw [if_neg hb] at hd ⊢
         exact ⟨⟨_, rfl, hd⟩⟩
       clear hd0 hd1 HND
       obtain ⟨st1, hst1, hrest⟩ := HNX.out
       have HN1 := zaa.mk hst1
       have HRS := zaa.mk hrest
       clear hst1 hrest HNX
       obtain ⟨na, A1, c1, A2, c2, rfl, hx0, hx1, hx2, hx3, hx4, hx5, hl1, hi1, hl2, hi2⟩ := zbc HR.out (i : Int) (by omega) (by omega)
       have HX2 := zaa.mk hx2
       have HI2 := zaa.mk hi2
       have HM2 := zaa.mk hi2.2.1
       have h64 : i < 64 := by have := HL.out; omega
       clear hx0 hx1 hx2 hx3 hx4 hx5 hl1 hi1 hl2 hi2
       go_wp2
       go_loopw [4, 6] (fun v4 v6 w' => ∃ (j : Nat) (m1 : Bool) (s1 : List Bool), j ≤ (zah l0_0 i).f2.length ∧ v6 = .int .i64 j ∧ v4 = .bool m1 ∧ zaa (rdOf false s1 (i : Int) = rdOf false s (i : Int)) ∧ zaa ((if rdOf false s (i : Int) = true then rNames l0_0 ((zah l0_0 (i : Int)).f2.drop j) s1 m1 else some (s1, m1)) = some st1) ∧ zaa (s1.length = 64) ∧ zaa (w'.heap[w.heap.size + 1]? = some (.cells (seenA s1) 93 (0, 0))) ∧ zaa (Below (zax.W1 w (some na) l0_0.length c0_0).heap.size (zax.W1 w (some na) l0_0.length c0_0) w')) (fun _ v6 _ => (zah l0_0 i).f2.length - (intOf v6).toNat)
       case atStart => exact ⟨0, _, _, Nat.zero_le _, rfl, rfl, ⟨rfl⟩, HN1, HSL, HG, HB⟩
       case round =>
        clear HN1 HSL HG HB hct
        obtain ⟨j, m1, s1, hj, rfl, rfl, HSI, HN1, HSL, HG, HB⟩ := hrel
        have hct := zax.zb3 HB.out
        have hmax2 := HM2.out
        have hsi := (zac HG.out i).trans (seenA_cell s1 (i : Int) (by omega) (by have := HSL.out; omega))
        rw [HSI.out] at hsi
        have hx2 := (HB.out.cell (World.block_lt_of_cell? _ _ HX2.out)).trans HX2.out
        rw [Int.toNat_natCast] at hx2
        cases hb : rdOf false s (i : Int) with
        | false =>
         have hd := HN1.out
         rw [hb, if_neg (by simp)] at hd
         obtain rfl := Option.some.inj hd
         rw [hb] at hsi
         clear hd hb
         go_wp2
         go_roundw
         case rel => exact ⟨i + 1, _, _, by omega, by go_num, rfl, HRS, HSL, HG, HB⟩
         case measure => simp [intOf]; omega
        | true =>
         have hd := HN1.out
         rw [hb, if_pos rfl] at hd
         rw [hb] at hsi
         have HSI1 : zaa (rdOf false s1 (i : Int) = true) := ⟨HSI.out.trans hb⟩
         have HSB : zaa (rdOf false s (i : Int) = true) := ⟨hb⟩
         clear hb HN1
         by_cases hlj : j < (zah l0_0 i).f2.length
         ·rw [rNames_drop l0_0 _ j hlj] at hd
          split at hd
          ·rename_i hc
           obtain ⟨hy0, hy1, hy2⟩ := hc
           obtain ⟨ad, rfl, hz0, hz1⟩ := zb4 HI2.out (j : Int) (by omega) (by omega)
           obtain ⟨nb, B1, d1, B2, d2, e2, hw0, hw1, hw2, hw3, hw4, hw5, hm1, ji1, hm2, ji2⟩ := zbc HR.out (zau (zah l0_0 i).f2 j).f1 hy0 hy1
           obtain rfl := Option.some.inj e2
           clear hz0 hw1 hw2 hw3 hw4 hw5 hm1 ji1 hm2 ji2 e2
           replace hz1 := (HB.out.cell (World.block_lt_of_cell? _ _ hz1)).trans hz1
           replace hw0 := (HB.out.cell (World.block_lt_of_cell? _ _ hw0)).trans hw0
           rw [Int.toNat_natCast] at hz1
           have hsx := (zac HG.out (zau (zah l0_0 i).f2 j).f1.toNat).trans (seenA_cell s1 (zau (zah l0_0 i).f2 j).f1 hy0 (by have := HSL.out; omega))
           have HLT : zaa ((zau (zah l0_0 i).f2 j).f1.toNat < s1.length) := ⟨by have := HSL.out; omega⟩
           have p0 := eq_true hy0
           have p1 := eq_true hy1
           have p2 := eq_true hy2
           by_cases ck : (zah l0_0 (zau (zah l0_0 i).f2 j).f1).f0 = 2
           ·have hk : ((zah l0_0 (zau (zah l0_0 i).f2 j).f1).f0 == 2) = true := by simpa using ck
            cases hsn : rdOf false s1 (zau (zah l0_0 i).f2 j).f1
            ·have hN : newDir l0_0 s1 (zau (zah l0_0 i).f2 j).f1 = true := by unfold newDir; rw [hk, hsn]; rfl
             rw [if_pos hN] at hd
             rw [hsn] at hsx
             have HD := zaa.mk hd
             have hsf := zaf HG.out (zau (zah l0_0 i).f2 j).f1.toNat
             have HG2 : zaa ((wr.setCell ⟨w.heap.size + 1, (zau (zah l0_0 i).f2 j).f1.toNat, none⟩ (.bool true)).heap[w.heap.size + 1]? = some (.cells (seenA (s1.set (zau (zah l0_0 i).f2 j).f1.toNat true)) 93 (0, 0))) := ⟨by rw [← seenA_set]; exact blk_set HG.out _ _⟩
             have HB2 := zaa.mk (HB.out.setCell (p := ⟨w.heap.size + 1, (zau (zah l0_0 i).f2 j).f1.toNat, none⟩) (by rw [zax.W1_size]; exact Nat.le_refl _) (.bool true))
             clear ck hsn hN hd
             go_wp2
             go_roundw
             case rel => exact ⟨j + 1, true, _, by omega, by go_num, rfl, ⟨rdOf_set_self _ _ _ HSI1.out HLT.out⟩, HD, ⟨by rw [List.length_set]; exact HSL.out⟩, HG2, HB2⟩
             case measure => simp [intOf]; omega
            ·have hN : newDir l0_0 s1 (zau (zah l0_0 i).f2 j).f1 = false := by unfold newDir; rw [hk, hsn]; rfl
             rw [hN, if_neg (by simp)] at hd
             rw [hsn] at hsx
             have HD := zaa.mk hd
             clear ck hsn hN hd
             go_wp2
             go_roundw
             case rel => exact ⟨j + 1, _, _, by omega, by go_num, rfl, HSI1, HD, HSL, HG, HB⟩
             case measure => simp [intOf]; omega
           ·have hk : ((zah l0_0 (zau (zah l0_0 i).f2 j).f1).f0 == 2) = false := by simpa using ck
            have hN : newDir l0_0 s1 (zau (zah l0_0 i).f2 j).f1 = false := by unfold newDir; rw [hk]; rfl
            rw [hN, if_neg (by simp)] at hd
            have HD := zaa.mk hd
            clear ck hN hd hsx
            go_wp2
            go_roundw
            case rel => exact ⟨j + 1, _, _, by omega, by go_num, rfl, HSI1, HD, HSL, HG, HB⟩
            case measure => simp [intOf]; omega
          ·cases hd
         ·rw [List.drop_eq_nil_of_le (by omega), rNames] at hd
          obtain rfl := Option.some.inj hd
          clear hd
          go_wp2
          go_roundw
          case rel => exact ⟨i + 1, _, _, by omega, by go_num, rfl, HRS, HSL, HG, HB⟩
          case measure => simp [intOf]; omega
      ·have hd := HND.out
       rw [show l0_0.length - i = 0 by omega, rNodes] at hd
       obtain rfl := Option.some.inj hd
       clear hd
       go_wp2
       go_roundg k1
       case measure => have := HK.out; omega
       case rel => exact ⟨_, _, rfl, HRE, ⟨by have := HK.out; omega⟩, HSL, HG, HB⟩
 ·cases h
inductive Reach (l : List S40) : Nat → Prop
 | root : Reach l 0
 | step {n : Nat} {x : S50} (h : Reach l n) (hn : n < l.length) (hx : x ∈ (zah l (n : Int)).f2) (hd : (zah l x.f1).f0 = 2) : Reach l x.f1.toNat
def InRange (l : List S40) : Prop := ∀ n : Nat, n < l.length → ∀ x ∈ (zah l (n : Int)).f2, 0 ≤ x.f1 ∧ x.f1 < (l.length : Int)
def on (s : List Bool) (i : Nat) : Bool := s.getD i false
theorem on_set (s : List Bool) (i j : Nat) (h : i < s.length) : on (s.set i true) j = if i = j then true else on s j := by
 unfold on
 rw [List.getD_eq_getElem?_getD, List.getD_eq_getElem?_getD, List.getElem?_set]
 by_cases e : i = j
 ·subst e; simp [h]
 ·simp [e]
theorem on_replicate (n i : Nat) : on (List.replicate n false) i = false := by
 unfold on
 rw [List.getD_eq_getElem?_getD, List.getElem?_replicate]
 split <;> rfl
def falses (s : List Bool) : Nat := s.count false
theorem falses_set : ∀ (s : List Bool) (i : Nat), i < s.length → on s i = false → falses (s.set i true) + 1 = falses s
 | [], i, h, _ => by simp at h
 | b :: s, 0, _, h => by
  have : b = false := by simpa [on] using h
  subst this; simp [falses]
 | b :: s, i + 1, h, h' => by
  have := falses_set s i (by simpa using h) (by simpa [on] using h')
  unfold falses at this ⊢
  rw [List.set_cons_succ, List.count_cons, List.count_cons]
  omega
theorem falses_le (s : List Bool) : falses s ≤ s.length := List.count_le_length
theorem newDir_spec (l : List S40) (s : List Bool) (x : Int) : newDir l s x = true ↔ (zah l x).f0 = 2 ∧ on s x.toNat = false := by
 unfold newDir; show (_ && !(on s x.toNat)) = true ↔ _; simp
theorem meets_ok (l : List S40) : ∀ (ns : List S50) (s : List Bool) (q : List Int), s.length = l.length → (∀ x ∈ ns, 0 ≤ x.f1 ∧ x.f1 < (l.length : Int)) → falses s + q.length < 17592186044416 →
  ∃ s' q', meets l ns (s, q) = some (s', q') ∧ s'.length = l.length ∧ falses s' + q'.length = falses s + q.length ∧ (∀ i, on s i = true → on s' i = true) ∧ (∀ i, on s' i = true → on s i = true ∨ ((i : Int) ∈ q' ∧ ∃ x ∈ ns, x.f1.toNat = i ∧ (zah l x.f1).f0 = 2)) ∧ (∀ n ∈ q, n ∈ q') ∧ (∀ n ∈ q', n ∈ q ∨ (0 ≤ n ∧ n < (l.length : Int) ∧ on s' n.toNat = true)) ∧ (∀ x ∈ ns, (zah l x.f1).f0 = 2 → on s' x.f1.toNat = true)
 | [], s, q, hs, _, _ => ⟨s, q, rfl, hs, rfl, fun _ h => h, fun _ h => .inl h, fun _ h => h, fun _ h => .inl h, by simp⟩
 | x :: r, s, q, hs, hr, hm => by
  have h1 := hr x (List.mem_cons_self ..)
  have hr' : ∀ y ∈ r, 0 ≤ y.f1 ∧ y.f1 < (l.length : Int) := fun y hy => hr y (List.mem_cons_of_mem _ hy)
  have hlt : x.f1.toNat < s.length := by omega
  by_cases hnew : newDir l s x.f1 = true
  ·obtain ⟨hk, h0⟩ := (newDir_spec l s x.f1).1 hnew
   have hF := falses_set s x.f1.toNat hlt h0
   have hon := fun j => on_set s x.f1.toNat j hlt
   obtain ⟨s', q', e, hl', hf', hmono, hnew', hq, hq', hall⟩ := meets_ok l r (s.set x.f1.toNat true) (q ++ [x.f1]) (by simpa using hs) hr' (by simp; omega)
   refine ⟨s', q', ?_, hl', by simp at hf'; omega, fun i hi => hmono i (by rw [hon]; split <;> simp_all), fun i hi => ?_, fun n hn => hq n (by simp [hn]), fun n hn => ?_, fun y hy hky => ?_⟩
   ·rw [meets, if_pos ⟨h1.1, h1.2, by show q.length < _; omega⟩]
    have : meetF l (s, q) x.f1 = (s.set x.f1.toNat true, q ++ [x.f1]) := by unfold meetF; rw [if_pos hnew]
    rw [this]; exact e
   ·rcases hnew' i hi with h | ⟨h, y, hy, h2, h3⟩
    ·rw [hon] at h
     by_cases e2 : x.f1.toNat = i
     ·refine .inr ⟨hq _ ?_, x, List.mem_cons_self .., e2, hk⟩
      have : (i : Int) = x.f1 := by omega
      rw [this]; simp
     ·rw [if_neg e2] at h; exact .inl h
    ·exact .inr ⟨h, y, List.mem_cons_of_mem _ hy, h2, h3⟩
   ·rcases hq' n hn with h | h
    ·rcases List.mem_append.1 h with h | h
     ·exact .inl h
     ·obtain rfl : n = x.f1 := by simpa using h
      exact .inr ⟨h1.1, h1.2, hmono _ (by rw [hon]; simp)⟩
    ·exact .inr h
   ·rcases List.mem_cons.1 hy with rfl | hy
    ·exact hmono _ (by rw [hon]; simp)
    ·exact hall y hy hky
  ·obtain ⟨s', q', e, hl', hf', hmono, hnew', hq, hq', hall⟩ := meets_ok l r s q hs hr' hm
   refine ⟨s', q', ?_, hl', hf', hmono, fun i hi => ?_, hq, hq', fun y hy hky => ?_⟩
   ·rw [meets, if_pos ⟨h1.1, h1.2, by show q.length < _; omega⟩]
    have : meetF l (s, q) x.f1 = (s, q) := by unfold meetF; rw [if_neg hnew]
    rw [this]; exact e
   ·rcases hnew' i hi with h | ⟨h, y, hy, h2, h3⟩
    ·exact .inl h
    ·exact .inr ⟨h, y, List.mem_cons_of_mem _ hy, h2, h3⟩
   ·rcases List.mem_cons.1 hy with rfl | hy
    ·refine hmono _ ?_
     cases hc : on s y.f1.toNat
     ·exact absurd ((newDir_spec l s y.f1).2 ⟨hky, hc⟩) hnew
     ·rfl
    ·exact hall y hy hky
def Closed (l : List S40) (s : List Bool) : Prop := ∀ i, i < l.length → on s i = true → ∀ x ∈ (zah l (i : Int)).f2, (zah l x.f1).f0 = 2 → on s x.f1.toNat = true
theorem closed_reach {l : List S40} {s : List Bool} (h0 : on s 0 = true) (hc : Closed l s) (hs : ∀ i, on s i = true → Reach l i) (i : Nat) : on s i = true ↔ Reach l i := by
 refine ⟨hs i, fun h => ?_⟩
 induction h with
 | root => exact h0
 | step h hn hx hd ih => exact hc _ hn ih _ hx hd
theorem reachF_ok (l : List S40) (hr : InRange l) : ∀ (d : Nat) (s : List Bool) (q : List Int), d < 17592186044416 → falses s + q.length ≤ d → s.length = l.length → (∀ i, on s i = true → Reach l i) → (∀ n ∈ q, 0 ≤ n ∧ n < (l.length : Int) ∧ on s n.toNat = true) → on s 0 = true →
  (∀ i, i < l.length → on s i = true → (i : Int) ∈ q ∨ ∀ x ∈ (zah l (i : Int)).f2, (zah l x.f1).f0 = 2 → on s x.f1.toNat = true) →
  ∃ R, reachF (d + 1) l s q = some R ∧ R.length = l.length ∧ ∀ i, on R i = true ↔ Reach l i
 | d, s, [], _, _, hs, hsnd, _, h0, hcl => ⟨s, by rw [reachF], hs, closed_reach h0 (fun i hi h => (hcl i hi h).resolve_left (by simp)) hsnd⟩
 | 0, s, n :: q, _, hd, _, _, _, _, _ => by simp at hd
 | d + 1, s, n :: q, hM, hd, hs, hsnd, hq, h0, hcl => by
  obtain ⟨hn0, hn1, hn2⟩ := hq n (List.mem_cons_self ..)
  obtain ⟨m, rfl⟩ : ∃ m : Nat, n = (m : Int) := ⟨n.toNat, by omega⟩
  have hm : m < l.length := by omega
  obtain ⟨s', q', e, hl', hf', hmono, hnew', hqs, hq', hall⟩ := meets_ok l (zah l (m : Int)).f2 s q hs (hr m hm) (by simp at hd; omega)
  have z1 : ∀ i, on s' i = true → Reach l i := by
   intro i hi
   rcases hnew' i hi with h | ⟨h, y, hy, h2, h3⟩
   ·exact hsnd i h
   ·rw [← h2]; exact Reach.step (hsnd m hn2) hm hy h3
  have z2 : ∀ n ∈ q', 0 ≤ n ∧ n < (l.length : Int) ∧ on s' n.toNat = true := by
   intro n hn
   rcases hq' n hn with h | h
   ·obtain ⟨a, b, c⟩ := hq n (List.mem_cons_of_mem _ h)
    exact ⟨a, b, hmono _ c⟩
   ·exact h
  have z3 : ∀ i, i < l.length → on s' i = true → (i : Int) ∈ q' ∨ ∀ x ∈ (zah l (i : Int)).f2, (zah l x.f1).f0 = 2 → on s' x.f1.toNat = true := by
   intro i hi h
   rcases hnew' i h with h | ⟨h, _⟩
   ·rcases hcl i hi h with h | h
    ·rcases List.mem_cons.1 h with h | h
     ·have : i = m := by omega
      subst this; exact .inr hall
     ·exact .inl (hqs _ h)
    ·exact .inr fun x hx hk => hmono _ (h x hx hk)
   ·exact .inl h
  obtain ⟨R, hR, hR2⟩ := reachF_ok l hr d s' q' (by omega) (by simp at hd; omega) hl' z1 z2 (hmono _ h0) z3
  refine ⟨R, ?_, hR2⟩
  rw [reachF]
  show (if _ then _ else _) = _
  rw [if_pos ⟨hn0, hn1⟩, e]; exact hR
theorem reached_tree (l : List S40) (h0 : 0 < l.length) (hl : l.length ≤ 64) (hk : (zah l 0).f0 = 2) (hr : InRange l) :
  ∃ R, zaz.f 66 l = some R ∧ R.length = l.length ∧ ∀ i, on R i = true ↔ Reach l i := by
 unfold zaz.f
 rw [if_pos h0, if_pos (by omega)]
 have hm : meetF l (List.replicate l.length false, []) 0 = ((List.replicate l.length false).set 0 true, [0]) := by
  unfold meetF; rw [if_pos ((newDir_spec l _ 0).2 ⟨hk, on_replicate _ _⟩)]; rfl
 rw [hm]
 have hon := fun j => on_set (List.replicate l.length false) 0 j (by simpa using h0)
 have hf := falses_set (List.replicate l.length false) 0 (by simpa using h0) (on_replicate _ _)
 have hfl := falses_le (List.replicate l.length false)
 rw [List.length_replicate] at hfl
 refine reachF_ok l hr 65 _ _ (by omega) (by simp; omega) (by simp) (fun i hi => ?_) (fun n hn => ?_) (by rw [hon]; rfl) (fun i _ hi => ?_)
 ·rw [hon, on_replicate] at hi
  by_cases e : 0 = i
  ·subst e; exact .root
  ·rw [if_neg e] at hi; cases hi
 ·obtain rfl : n = 0 := by simpa using hn
  exact ⟨by omega, by omega, by rw [hon]; rfl⟩
 ·rw [hon, on_replicate] at hi
  by_cases e : 0 = i
  ·subst e; exact .inl (by simp)
  ·rw [if_neg e] at hi; cases hi
theorem rNames_ok (l : List S40) (hl : l.length ≤ 64) : ∀ (ns : List S50) (s : List Bool) (m : Bool), s.length = 64 → (∀ x ∈ ns, 0 ≤ x.f1 ∧ x.f1 < (l.length : Int)) →
  ∃ s' m', rNames l ns s m = some (s', m') ∧ s'.length = 64 ∧ (∀ i, on s i = true → on s' i = true) ∧ (∀ i, on s' i = true → on s i = true ∨ ∃ x ∈ ns, x.f1.toNat = i ∧ (zah l x.f1).f0 = 2) ∧ (∀ x ∈ ns, (zah l x.f1).f0 = 2 → on s' x.f1.toNat = true) ∧ ((m' = m ∧ s' = s) ∨ (m' = true ∧ falses s' < falses s))
 | [], s, m, hs, _ => ⟨s, m, rfl, hs, fun _ h => h, fun _ h => .inl h, by simp, .inl ⟨rfl, rfl⟩⟩
 | x :: r, s, m, hs, hr => by
  have h1 := hr x (List.mem_cons_self ..)
  have hr' : ∀ y ∈ r, 0 ≤ y.f1 ∧ y.f1 < (l.length : Int) := fun y hy => hr y (List.mem_cons_of_mem _ hy)
  have hlt : x.f1.toNat < s.length := by omega
  by_cases hnew : newDir l s x.f1 = true
  ·obtain ⟨hk, h0⟩ := (newDir_spec l s x.f1).1 hnew
   have hF := falses_set s x.f1.toNat hlt h0
   have hon := fun j => on_set s x.f1.toNat j hlt
   obtain ⟨s', m', e, hl', hmono, hnew', hall, hch⟩ := rNames_ok l hl r (s.set x.f1.toNat true) true (by simpa using hs) hr'
   refine ⟨s', m', ?_, hl', fun i hi => hmono i (by rw [hon]; split <;> simp_all), fun i hi => ?_, fun y hy hky => ?_, .inr ?_⟩
   ·rw [rNames, if_pos ⟨h1.1, h1.2, by omega⟩, if_pos hnew]; exact e
   ·rcases hnew' i hi with h | ⟨y, hy, h2, h3⟩
    ·rw [hon] at h
     by_cases e2 : x.f1.toNat = i
     ·exact .inr ⟨x, List.mem_cons_self .., e2, hk⟩
     ·rw [if_neg e2] at h; exact .inl h
    ·exact .inr ⟨y, List.mem_cons_of_mem _ hy, h2, h3⟩
   ·rcases List.mem_cons.1 hy with rfl | hy
    ·exact hmono _ (by rw [hon]; simp)
    ·exact hall y hy hky
   ·rcases hch with ⟨rfl, rfl⟩ | ⟨rfl, h⟩
    ·exact ⟨rfl, by omega⟩
    ·exact ⟨rfl, by omega⟩
  ·obtain ⟨s', m', e, hl', hmono, hnew', hall, hch⟩ := rNames_ok l hl r s m hs hr'
   refine ⟨s', m', ?_, hl', hmono, fun i hi => ?_, fun y hy hky => ?_, hch⟩
   ·rw [rNames, if_pos ⟨h1.1, h1.2, by omega⟩, if_neg hnew]; exact e
   ·rcases hnew' i hi with h | ⟨y, hy, h2, h3⟩
    ·exact .inl h
    ·exact .inr ⟨y, List.mem_cons_of_mem _ hy, h2, h3⟩
   ·rcases List.mem_cons.1 hy with rfl | hy
    ·refine hmono _ ?_
     cases hc : on s y.f1.toNat
     ·exact absurd ((newDir_spec l s y.f1).2 ⟨hky, hc⟩) hnew
     ·rfl
    ·exact hall y hy hky
theorem rNodes_ok (l : List S40) (hl : l.length ≤ 64) (hr : InRange l) : ∀ (d i : Nat) (s : List Bool) (m : Bool), i + d = l.length → s.length = 64 → (∀ i, on s i = true → Reach l i) →
  ∃ s' m', rNodes l d i s m = some (s', m') ∧ s'.length = 64 ∧ (∀ i, on s i = true → on s' i = true) ∧ (∀ i, on s' i = true → Reach l i) ∧
   ((m' = m ∧ s' = s ∧ ∀ j, i ≤ j → j < l.length → on s j = true → ∀ x ∈ (zah l (j : Int)).f2, (zah l x.f1).f0 = 2 → on s x.f1.toNat = true) ∨ (m' = true ∧ falses s' < falses s))
 | 0, i, s, m, hi, hs, hsnd => ⟨s, m, rfl, hs, fun _ h => h, hsnd, .inl ⟨rfl, rfl, fun j h1 h2 => by omega⟩⟩
 | d + 1, i, s, m, hi, hs, hsnd => by
  cases hc : on s i with
  | false =>
   obtain ⟨s', m', e, hl', hmono, hsnd', hch⟩ := rNodes_ok l hl hr d (i + 1) s m (by omega) hs hsnd
   refine ⟨s', m', ?_, hl', hmono, hsnd', ?_⟩
   ·rw [rNodes]
    have hc' : rdOf false s (i : Int) = false := hc
    rw [hc', if_neg (by simp)]; exact e
   ·rcases hch with ⟨rfl, rfl, h⟩ | h
    ·refine .inl ⟨rfl, rfl, fun j h1 h2 h3 => ?_⟩
     by_cases e2 : j = i
     ·subst e2; rw [hc] at h3; cases h3
     ·exact h j (by omega) h2 h3
    ·exact .inr h
  | true =>
   have hi' : i < l.length := by omega
   obtain ⟨s1, m1, e1, hl1, hmono1, hnew1, hall1, hch1⟩ := rNames_ok l hl (zah l (i : Int)).f2 s m hs (hr i hi')
   have hsnd1 : ∀ j, on s1 j = true → Reach l j := fun j hj => by
    rcases hnew1 j hj with h | ⟨y, hy, h2, h3⟩
    ·exact hsnd j h
    ·rw [← h2]; exact Reach.step (hsnd i hc) hi' hy h3
   obtain ⟨s', m', e, hl', hmono, hsnd', hch⟩ := rNodes_ok l hl hr d (i + 1) s1 m1 (by omega) hl1 hsnd1
   refine ⟨s', m', ?_, hl', fun j hj => hmono j (hmono1 j hj), hsnd', ?_⟩
   ·rw [rNodes]
    have hc' : rdOf false s (i : Int) = true := hc
    rw [hc', if_pos rfl, e1]; exact e
   ·rcases hch1 with ⟨rfl, rfl⟩ | ⟨rfl, h1⟩
    ·rcases hch with ⟨rfl, rfl, h⟩ | h
     ·refine .inl ⟨rfl, rfl, fun j h1 h2 h3 => ?_⟩
      by_cases e2 : j = i
      ·subst e2; exact hall1
      ·exact h j (by omega) h2 h3
     ·exact .inr h
    ·rcases hch with ⟨rfl, rfl, h⟩ | ⟨h, h2⟩
     ·exact .inr ⟨rfl, h1⟩
     ·exact .inr ⟨h, by omega⟩
theorem rLoop_ok (l : List S40) (hl : l.length ≤ 64) (hr : InRange l) : ∀ (d : Nat) (s : List Bool), falses s ≤ d → s.length = 64 → (∀ i, on s i = true → Reach l i) → on s 0 = true →
  ∃ R, rLoop l (d + 2) s true = some R ∧ ∀ i, on R i = true ↔ Reach l i
 | d, s, hd, hs, hsnd, h0 => by
  obtain ⟨s', m', e, hl', hmono, hsnd', hch⟩ := rNodes_ok l hl hr l.length 0 s false (by omega) hs hsnd
  rcases hch with ⟨rfl, rfl, h⟩ | ⟨rfl, h⟩
  ·refine ⟨s', ?_, closed_reach h0 (fun i hi hon => h i (Nat.zero_le _) hi hon) hsnd'⟩
   rw [rLoop, if_pos rfl, e, Option.bind_some, rLoop, if_neg (by simp)]
  ·obtain ⟨d, rfl⟩ : ∃ d', d = d' + 1 := ⟨d - 1, by omega⟩
   obtain ⟨R, hR, hR2⟩ := rLoop_ok l hl hr d s' (by omega) hl' hsnd' (hmono _ h0)
   refine ⟨R, ?_, hR2⟩
   rw [rLoop, if_pos rfl, e, Option.bind_some]; exact hR
theorem seen_start : ∀ i, on ((List.replicate 64 false).set 0 true) i = true → i = 0 := fun i hi => by
 rw [on_set _ _ _ (by simp), on_replicate] at hi
 by_cases e : 0 = i
 ·exact e.symm
 ·rw [if_neg e] at hi; cases hi
theorem reached_page (l : List S40) (hl : l.length ≤ 64) (hr : InRange l) :
  ∃ R, rLoop l 66 ((List.replicate 64 false).set 0 true) true = some R ∧ ∀ i, on R i = true ↔ Reach l i := by
 refine rLoop_ok l hl hr 64 _ ?_ (by simp) (fun i hi => by rw [seen_start i hi]; exact .root) (by rw [on_set _ _ _ (by simp)]; rfl)
 have := falses_le ((List.replicate 64 false).set 0 true)
 simpa using this
end Go.Proofs.YtjghephnjkffcaaGreat.PAll
