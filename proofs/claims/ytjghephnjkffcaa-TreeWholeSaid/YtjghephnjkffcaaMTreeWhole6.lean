/- Parts of one proof, merged by a program of this repo: walks over the given program and plain facts. -/
import Derived.Test.YtjghephnjkffcaaMTreeWhole4
import Derived.Test.YtjghephnjkffcaaMTreeWhole2
import Derived.Deep.DrawnRows
import Derived.Deep.RegionHeld3
import Derived.Test.YtjghephnjkffcaaMTreeWhole5
namespace Go.Proofs.Ytjghephnjkffcaa.PCk
open Go.RowKit Go.Proofs.YtjghephnjkffcaaW.PrintWords Go.Proofs.YtjghephnjkffcaaW.PrintLast Go.Proofs.YtjghephnjkffcaaW.PrintMore
attribute [local go_sem] zbV zbT zci zch zbG zbF zbU zbS
set_option linter.unusedVariables false
set_option linter.unusedSimpArgs false
mutual
def zaR.l0 : Nat → List Int → List (S45) → Int → Int → Option (List Int)
 | 0, _, _, _, _ => none
 | k + 1, x3, x13, x14, x15 => if x15 < x14 then (if 0 ≤ x15 then (if x15 < (x13.length : Int) then (zaR.l1 k x3 x13 x14 x15 ((zae x13 x15).f2) (((zae x13 x15).f2).length : Int) 0) else (none)) else (none)) else (some x3)
def zaR.l1 : Nat → List Int → List (S45) → Int → Int → List (S66) → Int → Int → Option (List Int)
 | 0, _, _, _, _, _, _, _ => none
 | k + 1, x3, x13, x14, x15, x20, x21, x22 => if x22 < x21 then (if 0 ≤ x22 then (if x22 < (x20.length : Int) then (if 0 ≤ ((zat x20 x22).f1) then (if ((zat x20 x22).f1) < (x3.length : Int) then (zaR.l1 k (x3.set (((zat x20 x22).f1) : Int).toNat (wrap64 ((rd x3 ((zat x20 x22).f1)) + 1))) x13 x14 x15 x20 x21 (wrap64 (x22 + 1))) else (none)) else (none)) else (none)) else (none)) else (zaR.l0 k x3 x13 x14 (wrap64 (x15 + 1)))
end
def zaR.f (k : Nat) (l0_0 : List (S45)) : Option (List Int) := if 0 ≤ (l0_0.length : Int) then (if ((l0_0.length : Int) : Int).toNat ≤ 35184372088832 then (zaR.l0 k (List.replicate ((l0_0.length : Int) : Int).toNat 0) l0_0 (l0_0.length : Int) 0) else (none)) else (none)
theorem zaR.mono_l : ∀ k, (∀ y0 y1 y2 y3, LeO (zaR.l0 k y0 y1 y2 y3) (zaR.l0 (k + 1) y0 y1 y2 y3)) ∧ (∀ y0 y1 y2 y3 y4 y5 y6, LeO (zaR.l1 k y0 y1 y2 y3 y4 y5 y6) (zaR.l1 (k + 1) y0 y1 y2 y3 y4 y5 y6))
 | 0 => ⟨fun _ _ _ _ r h => by simp [zaR.l0] at h, fun _ _ _ _ _ _ _ r h => by simp [zaR.l1] at h⟩
 | k + 1 => by
  obtain ⟨ih0, ih1⟩ := zaR.mono_l k
  refine ⟨?_, ?_⟩
  ·intro y0 y1 y2 y3
   unfold zaR.l0
   repeat' first
   | (with_reducible exact ih0 _ _ _ _)
   | (with_reducible exact ih1 _ _ _ _ _ _ _)
   | (with_reducible exact LeO.refl _)
   | (with_reducible exact LeO.none _)
   | (with_reducible refine LeO.ite ?_ ?_)
   | (with_reducible refine LeO.bind ?_ (fun _ => ?_))
   | exact ih0 _ _ _ _
   | exact ih1 _ _ _ _ _ _ _
   | exact LeO.none _
   | refine LeO.ite ?_ ?_
   | refine LeO.bind ?_ (fun _ => ?_)
  ·intro y0 y1 y2 y3 y4 y5 y6
   unfold zaR.l1
   repeat' first
   | (with_reducible exact ih0 _ _ _ _)
   | (with_reducible exact ih1 _ _ _ _ _ _ _)
   | (with_reducible exact LeO.refl _)
   | (with_reducible exact LeO.none _)
   | (with_reducible refine LeO.ite ?_ ?_)
   | (with_reducible refine LeO.bind ?_ (fun _ => ?_))
   | exact ih0 _ _ _ _
   | exact ih1 _ _ _ _ _ _ _
   | exact LeO.none _
   | refine LeO.ite ?_ ?_
   | refine LeO.bind ?_ (fun _ => ?_)
theorem zaR.mono : ∀ a0 k, LeO (zaR.f k a0) (zaR.f (k + 1) a0) := by
 intro a0 k
 obtain ⟨ih0, ih1⟩ := zaR.mono_l k
 unfold zaR.f
 repeat' first
   | (with_reducible exact ih0 _ _ _ _)
   | (with_reducible exact ih1 _ _ _ _ _ _ _)
   | (with_reducible exact LeO.refl _)
   | (with_reducible exact LeO.none _)
   | (with_reducible refine LeO.ite ?_ ?_)
   | (with_reducible refine LeO.bind ?_ (fun _ => ?_))
   | exact ih0 _ _ _ _
   | exact ih1 _ _ _ _ _ _ _
   | exact LeO.none _
   | refine LeO.ite ?_ ?_
   | refine LeO.bind ?_ (fun _ => ?_)
set_option maxHeartbeats 8000000 in
set_option maxRecDepth 100000 in
theorem zaR.calls (k : Nat) (A0_0 : Option Addr) (c0_0 : Nat) (l0_0 : List (S45)) (r : List Int) (w : World) (hr0_0 : Kd.C k45 w A0_0 l0_0.length l0_0) (hc0_0 : l0_0.length ≤ c0_0) (h : zaR.f k l0_0 = some r) :
  Calls Try.prog 60 #[.agg #[.slice A0_0 l0_0.length c0_0]] w fun e w' => ∃ v0_ : Value, e = .returned (v0_) ∧ Kd.R (Kd.int .i64) 3 w' w.heap.size (fun _ => True) v0_ r ∧ Below w.heap.size w w' := by
 have hu24 := Try.underlying24
 have hu45 := Try.underlying45
 have hu66 := Try.underlying66
 have HR0_0 := zaa.mk hr0_0
 have HC0_0 := zaa.mk hc0_0
 clear hr0_0 hc0_0
 have HB := zaa.mk (Below.refl w.heap.size w)
 have H : (if 0 ≤ (l0_0.length : Int) then (if ((l0_0.length : Int) : Int).toNat ≤ 35184372088832 then (zaR.l0 k (List.replicate ((l0_0.length : Int) : Int).toNat 0) l0_0 (l0_0.length : Int) 0) else (none)) else (none)) = some r := h
 clear h
 by_cases c2 : 0 ≤ (l0_0.length : Int)
 ·rw [if_pos c2] at H
  have c2b0 := eq_true c2
  have c2b1 : decide (0 ≤ (l0_0.length : Int)) = true := decide_eq_true c2
  clear c2
  by_cases c3 : ((l0_0.length : Int) : Int).toNat ≤ 35184372088832
  ·rw [if_pos c3] at H
   have c3b0 := eq_true c3
   have c3b1 : decide (((l0_0.length : Int) : Int).toNat ≤ 35184372088832) = true := decide_eq_true c3
   clear c3
   obtain ⟨y159, hy159⟩ : ∃ y_ : List Int, y_ = (List.replicate ((l0_0.length : Int) : Int).toNat 0) := ⟨_, rfl⟩
   replace H : (zaR.l0 k y159 l0_0 (l0_0.length : Int) 0) = some r := by first | (rw [hy159]; with_reducible exact H) | (have H2_ := (Option.bind_some _ _).symm.trans H; rw [hy159]; with_reducible exact H2_) | (have H2_ := (Option.bind_some _ _).symm.trans H; with_reducible exact H2_) | with_reducible exact H | (rw [hy159]; exact H) | exact H
   have Ny159 := zaa.mk hy159
   clear hy159
   have H' := zaa.mk H
   clear H
   go_enter Try.func60, Try.ntmps60
   go_wp2_with (first | ((with_reducible refine zaT (N := 1) rfl ?_); refine zaN ?hg (N := 1) ?hd (cs := #[.slice A0_0 l0_0.length c0_0]) (t := 24) ?hr ?_; (case hd => rfl); (case hg => rfl); (case hr => first | (go_simp; done) | (go_simp; rfl)); intro gb158 hg w4 hbox hb; have n0_ := zaa.mk (zai (by repeat (first | (with_reducible first | exact HB.out | apply zac | apply zab | apply zad) | exact HB.out)) hb); have n1_ := zaa.mk (hbox); have n2_ := zaa.mk ((by rw [hg]; exact (zao (by repeat (first | (with_reducible first | exact HB.out | apply zac | apply zab | apply zad) | exact HB.out))) : w.heap.size ≤ gb158)); have n3_ := zaa.mk ((by rw [hg]; exact (zao (by repeat (first | (with_reducible first | exact HB.out | apply zac | apply zab | apply zad) | exact HB.out))) : w.heap.size ≤ gb158)); clear HB; have HB := n0_; have BK158 := n1_; have GW158 := n2_; have GE158 := n3_; clear n0_ n1_ n2_ n3_; clear hb hbox hg; have hcz5_0 : w4.cell? ⟨gb158, 0, none⟩ = some (.slice A0_0 l0_0.length c0_0) := (zah BK158.out 0).trans rfl; have hfz5_0 := zaf BK158.out 0) | ((with_reducible refine zaT (N := 11) rfl ?_); refine Kd.R_make (Kd.int .i64) _ 3 rfl (N := 11) rfl 88 _ _ rfl (l0_0.length : Int) rfl rfl Try.underlying88 (.int .i64 0) 8 info3 rfl (by decide) (by omega) 0 (ok := fun _ => True) (okp := fun _ => True) rfl (fun _ hk => hk) trivial (of_decide_eq_true (by first | (with_reducible assumption) | assumption)) (Nat.le_trans (Nat.mul_le_mul_right _ (of_decide_eq_true (by first | (with_reducible assumption) | assumption) : (l0_0.length : Int).toNat ≤ 35184372088832)) (by omega)) (Below.refl _ _) (Nat.le_refl _) ?_; intro v160 w6 ho7 hb hg_ hnew_; clear hg_ hnew_; (first | rw [← Ny159.out] at ho7 | (simp only [Int.reduceToNat] at ho7; rw [← Ny159.out] at ho7)); have n0_ := zaa.mk (Kd.R_lower ho7 (zao (by repeat (first | (with_reducible first | exact HB.out | apply zac | apply zab | apply zad | refine zal ?_ GE158.out) | exact HB.out)))); have n1_ := zaa.mk (zaq (g := gb158) (o := .cells #[.slice A0_0 l0_0.length c0_0] 24 (0, 0)) (by (with_reducible repeat (first | refine zak ?_ _ | refine zam ?_ | refine zaj ?_ _)); exact BK158.out) hb); have n2_ := zaa.mk (zai (by repeat (first | (with_reducible first | exact HB.out | apply zac | apply zab | apply zad | refine zal ?_ GE158.out) | exact HB.out)) hb); clear BK158; clear HB; have HO161 := n0_; have BK158 := n1_; have HB := n2_; clear n0_ n1_ n2_; clear hb ho7; have hcz8_0 : w6.cell? ⟨gb158, 0, none⟩ = some (.slice A0_0 l0_0.length c0_0) := (zah BK158.out 0).trans rfl; have hfz8_0 := zaf BK158.out 0))
   go_loopg [15] k (fun kq v15 w' => ∃ (x3_1 : List Int) (x15_1 : Int), v15 = .int .i64 x15_1 ∧ zaa (zaR.l0 kq x3_1 l0_0 (l0_0.length : Int) x15_1 = some r) ∧ zaa (kq ≤ k) ∧ zaa (Kd.R (Kd.int .i64) 3 w' w.heap.size (fun _ => True) v160 x3_1) ∧ zaa (w'.heap[gb158]? = some (.cells #[(.slice A0_0 l0_0.length c0_0)] 24 (0, 0))) ∧ zaa (Below w.heap.size w w'))
   case atStart => exact ⟨(y159), (0), (by first | rfl | (simp; done) | (simp [*]; done)), H', ⟨Nat.le_refl _⟩, ⟨by (with_reducible repeat (first | apply Kd.zbP | apply Kd.zb4 | apply Kd.zcm)); exact HO161.out⟩, ⟨by (with_reducible repeat (first | refine zak ?_ _ | refine zam ?_ | refine zaj ?_ _)); exact BK158.out⟩, ⟨by repeat (first | (with_reducible first | exact HB.out | apply zac | apply zab | apply zad | refine zal ?_ GE158.out) | exact HB.out)⟩⟩
   case round =>
    clear H'
    try clear c2
    try clear c2b0
    try clear c2b1
    try clear p2
    try clear c3
    try clear c3b0
    try clear c3b1
    try clear c6
    try clear hcz5_0
    try clear hcz8_0
    try clear hfz5_0
    try clear hfz8_0
    obtain ⟨x3_1, x15_1, rfl, HA, HK1, HO_3, BK158, HB⟩ := hrel
    cases gk with
    | zero => exact absurd HA.out (by simp [zaR.l0])
    | succ k1 =>
     have H := HA.out
     clear HA
     simp only [zaR.l0] at H
     by_cases c9 : x15_1 < (l0_0.length : Int)
     ·rw [if_pos c9] at H
      have c9b0 : decide (x15_1 < (l0_0.length : Int)) = true := decide_eq_true c9
      clear c9
      by_cases c10 : 0 ≤ x15_1
      ·rw [if_pos c10] at H
       have c10b0 : decide (0 ≤ x15_1) = true := decide_eq_true c10
       clear c10
       by_cases c11 : x15_1 < (l0_0.length : Int)
       ·rw [if_pos c11] at H
        have c11b0 : decide (x15_1 < (l0_0.length : Int)) = true := decide_eq_true c11
        clear c11
        have H' := zaa.mk H
        clear H
        have p162 : 0 ≤ (x15_1 : Int) := of_decide_eq_true (by first | (with_reducible assumption) | assumption)
        have q162 : x15_1 < (l0_0.length : Int) := of_decide_eq_true (by first | (with_reducible assumption) | assumption)
        obtain ⟨ad162, A162_1, c162_1, A162_2, c162_2, e162, hx162_0, hx162_1, hx162_2, hx162_3, hx162_4, hx162_5, hl162_1, hi162_1, hl162_2, hi162_2⟩ := zbn HR0_0.out x15_1 p162 q162
        cases e162
        replace hx162_0 := (HB.out.cell (World.block_lt_of_cell? w _ hx162_0)).trans hx162_0
        replace hx162_1 := (HB.out.cell (World.block_lt_of_cell? w _ hx162_1)).trans hx162_1
        replace hx162_2 := (HB.out.cell (World.block_lt_of_cell? w _ hx162_2)).trans hx162_2
        replace hx162_3 := (HB.out.cell (World.block_lt_of_cell? w _ hx162_3)).trans hx162_3
        replace hx162_4 := (HB.out.cell (World.block_lt_of_cell? w _ hx162_4)).trans hx162_4
        replace hx162_5 := (HB.out.cell (World.block_lt_of_cell? w _ hx162_5)).trans hx162_5
        have HR162_1 := zaa.mk hi162_1
        have HC162_1 := zaa.mk hl162_1
        clear hi162_1 hl162_1
        have HR162_2 := zaa.mk hi162_2
        have HC162_2 := zaa.mk hl162_2
        clear hi162_2 hl162_2
        replace p162 := eq_true p162
        replace q162 := eq_true q162
        go_wp2_with (first | ((with_reducible refine zaT (N := 5) rfl ?_); refine zaN ?hg (N := 5) ?hd (cs := #[.int .i64 0, .slice none 0 0, .slice none 0 0, .string (⟨#[]⟩ : ByteArray), .int .i64 0, .int .i64 0]) (t := 45) ?hr ?_; (case hd => rfl); (case hg => rfl); (case hr => first | (go_simp; done) | (go_simp; rfl)); intro gb163 hg w12 hbox hb; have n0_ := zaa.mk (Kd.zcz (by (with_reducible repeat (first | apply Kd.zbP | apply Kd.zb4 | apply Kd.zcm)); exact HO_3.out) hb); have n1_ := zaa.mk (zaq (g := gb158) (o := .cells #[.slice (some ad162) l0_0.length c0_0] 24 (0, 0)) (by (with_reducible repeat (first | refine zak ?_ _ | refine zam ?_ | refine zaj ?_ _)); exact BK158.out) hb); have n2_ := zaa.mk (zai (by repeat (first | (with_reducible first | exact HB.out | apply zac | apply zab | apply zad | refine zal ?_ GE158.out) | exact HB.out)) hb); have n3_ := zaa.mk (hbox); have n4_ := zaa.mk ((by rw [hg]; exact (zao (by repeat (first | (with_reducible first | exact HB.out | apply zac | apply zab | apply zad | refine zal ?_ GE158.out) | exact HB.out))) : w.heap.size ≤ gb163)); have n5_ := zaa.mk ((by rw [hg]; exact (zao (by repeat (first | (with_reducible first | exact HB.out | apply zac | apply zab | apply zad | refine zal ?_ GE158.out) | exact HB.out))) : w.heap.size ≤ gb163)); have n6_ := zaa.mk ((by rw [hg]; exact Nat.ne_of_lt (zaV (g := gb158) (o := .cells #[.slice (some ad162) l0_0.length c0_0] 24 (0, 0)) (by (with_reducible repeat (first | refine zak ?_ _ | refine zam ?_ | refine zaj ?_ _)); exact BK158.out)) : gb158 ≠ gb163)); have n7_ := zaa.mk ((by rw [hg]; exact Nat.ne_of_gt (zaV (g := gb158) (o := .cells #[.slice (some ad162) l0_0.length c0_0] 24 (0, 0)) (by (with_reducible repeat (first | refine zak ?_ _ | refine zam ?_ | refine zaj ?_ _)); exact BK158.out)) : gb163 ≠ gb158)); clear HO_3; clear BK158; clear HB; have HO_3 := n0_; have BK158 := n1_; have HB := n2_; have BK163 := n3_; have GW163 := n4_; have GE163 := n5_; have NB158_163 := n6_; have NB163_158 := n7_; clear n0_ n1_ n2_ n3_ n4_ n5_ n6_ n7_; clear hb hbox hg; have hnb13 := NB163_158.out; have hnc13 := NB158_163.out; have hcz14_0 : w12.cell? ⟨gb163, 0, none⟩ = some (.int .i64 0) := (zah BK163.out 0).trans rfl; have hcz14_1 : w12.cell? ⟨gb163, 1, none⟩ = some (.slice none 0 0) := (zah BK163.out 1).trans rfl; have hcz14_2 : w12.cell? ⟨gb163, 2, none⟩ = some (.slice none 0 0) := (zah BK163.out 2).trans rfl; have hcz14_3 : w12.cell? ⟨gb163, 3, none⟩ = some (.string (⟨#[]⟩ : ByteArray)) := (zah BK163.out 3).trans rfl; have hcz14_4 : w12.cell? ⟨gb163, 4, none⟩ = some (.int .i64 0) := (zah BK163.out 4).trans rfl; have hcz14_5 : w12.cell? ⟨gb163, 5, none⟩ = some (.int .i64 0) := (zah BK163.out 5).trans rfl; have hfz14_0 := zaf BK163.out 0; have hfz14_1 := zaf BK163.out 1; have hfz14_2 := zaf BK163.out 2; have hfz14_3 := zaf BK163.out 3; have hfz14_4 := zaf BK163.out 4; have hfz14_5 := zaf BK163.out 5))
        go_loopg [22] k1 (fun kq v22 w' => ∃ (x3_2 : List Int) (x22_2 : Int), v22 = .int .i64 x22_2 ∧ zaa (zaR.l1 kq x3_2 l0_0 (l0_0.length : Int) x15_1 ((zae l0_0 x15_1).f2) (((zae l0_0 x15_1).f2).length : Int) x22_2 = some r) ∧ zaa (kq ≤ k1) ∧ zaa (Kd.R (Kd.int .i64) 3 w' w.heap.size (fun _ => True) v160 x3_2) ∧ zaa (w'.heap[gb158]? = some (.cells #[(.slice (some ad162) l0_0.length c0_0)] 24 (0, 0))) ∧ zaa (w'.heap[gb163]? = some (.cells #[.int .i64 ((zae l0_0 x15_1).f0), (.slice A162_1 ((zae l0_0 x15_1).f1).length c162_1), (.slice A162_2 ((zae l0_0 x15_1).f2).length c162_2), .string ((zae l0_0 x15_1).f3), .int .i64 ((zae l0_0 x15_1).f4), .int .i64 ((zae l0_0 x15_1).f5)] 45 (0, 0))) ∧ zaa (Below w.heap.size w w'))
        case atStart => exact ⟨(x3_1), (0), (by first | rfl | (simp; done) | (simp [*]; done)), H', ⟨Nat.le_refl _⟩, ⟨by (with_reducible repeat (first | apply Kd.zbP | apply Kd.zb4 | apply Kd.zcm)); exact Kd.zby (Kd.R_far (p := ⟨gb163, 5, none⟩) (Kd.R_far (p := ⟨gb163, 4, none⟩) (Kd.R_far (p := ⟨gb163, 3, none⟩) (Kd.R_far (p := ⟨gb163, 2, none⟩) (Kd.R_far (p := ⟨gb163, 1, none⟩) (Kd.R_far (p := ⟨gb163, 0, none⟩) (Kd.zcn HO_3.out BK163.out (by decide)) (fun _ hk => hk.2) (.int .i64 ((zae l0_0 x15_1).f0))) (fun _ hk => hk.2) (.slice A162_1 ((zae l0_0 x15_1).f1).length c162_1)) (fun _ hk => hk.2) (.slice A162_2 ((zae l0_0 x15_1).f2).length c162_2)) (fun _ hk => hk.2) (.string ((zae l0_0 x15_1).f3))) (fun _ hk => hk.2) (.int .i64 ((zae l0_0 x15_1).f4))) (fun _ hk => hk.2) (.int .i64 ((zae l0_0 x15_1).f5))) (fun _ hk => trivial)⟩, ⟨by (with_reducible repeat (first | refine zak ?_ _ | refine zam ?_ | refine zaj ?_ _)); refine zaC ?_ NB158_163.out _; (with_reducible repeat (first | refine zak ?_ _ | refine zam ?_ | refine zaj ?_ _)); refine zaC ?_ NB158_163.out _; (with_reducible repeat (first | refine zak ?_ _ | refine zam ?_ | refine zaj ?_ _)); refine zaC ?_ NB158_163.out _; (with_reducible repeat (first | refine zak ?_ _ | refine zam ?_ | refine zaj ?_ _)); refine zaC ?_ NB158_163.out _; (with_reducible repeat (first | refine zak ?_ _ | refine zam ?_ | refine zaj ?_ _)); refine zaC ?_ NB158_163.out _; (with_reducible repeat (first | refine zak ?_ _ | refine zam ?_ | refine zaj ?_ _)); refine zaC ?_ NB158_163.out _; (with_reducible repeat (first | refine zak ?_ _ | refine zam ?_ | refine zaj ?_ _)); exact BK158.out⟩, ⟨by (with_reducible repeat (first | refine zak ?_ _ | refine zam ?_ | refine zaj ?_ _)); refine zaF (cs := #[.int .i64 ((zae l0_0 x15_1).f0), .slice A162_1 ((zae l0_0 x15_1).f1).length c162_1, .slice A162_2 ((zae l0_0 x15_1).f2).length c162_2, .string ((zae l0_0 x15_1).f3), .int .i64 ((zae l0_0 x15_1).f4), .int .i64 0]) ?_ 5 _ rfl; (with_reducible repeat (first | refine zak ?_ _ | refine zam ?_ | refine zaj ?_ _)); refine zaF (cs := #[.int .i64 ((zae l0_0 x15_1).f0), .slice A162_1 ((zae l0_0 x15_1).f1).length c162_1, .slice A162_2 ((zae l0_0 x15_1).f2).length c162_2, .string ((zae l0_0 x15_1).f3), .int .i64 0, .int .i64 0]) ?_ 4 _ rfl; (with_reducible repeat (first | refine zak ?_ _ | refine zam ?_ | refine zaj ?_ _)); refine zaF (cs := #[.int .i64 ((zae l0_0 x15_1).f0), .slice A162_1 ((zae l0_0 x15_1).f1).length c162_1, .slice A162_2 ((zae l0_0 x15_1).f2).length c162_2, .string (⟨#[]⟩ : ByteArray), .int .i64 0, .int .i64 0]) ?_ 3 _ rfl; (with_reducible repeat (first | refine zak ?_ _ | refine zam ?_ | refine zaj ?_ _)); refine zaF (cs := #[.int .i64 ((zae l0_0 x15_1).f0), .slice A162_1 ((zae l0_0 x15_1).f1).length c162_1, .slice none 0 0, .string (⟨#[]⟩ : ByteArray), .int .i64 0, .int .i64 0]) ?_ 2 _ rfl; (with_reducible repeat (first | refine zak ?_ _ | refine zam ?_ | refine zaj ?_ _)); refine zaF (cs := #[.int .i64 ((zae l0_0 x15_1).f0), .slice none 0 0, .slice none 0 0, .string (⟨#[]⟩ : ByteArray), .int .i64 0, .int .i64 0]) ?_ 1 _ rfl; (with_reducible repeat (first | refine zak ?_ _ | refine zam ?_ | refine zaj ?_ _)); refine zaF (cs := #[.int .i64 0, .slice none 0 0, .slice none 0 0, .string (⟨#[]⟩ : ByteArray), .int .i64 0, .int .i64 0]) ?_ 0 _ rfl; (with_reducible repeat (first | refine zak ?_ _ | refine zam ?_ | refine zaj ?_ _)); exact BK163.out⟩, ⟨by repeat (first | (with_reducible first | exact HB.out | apply zac | apply zab | apply zad | refine zal ?_ GE158.out | refine zal ?_ GE163.out) | exact HB.out)⟩⟩
        case round =>
         clear H'
         try clear c1
         try clear p1
         try clear q1
         try clear hx1
         try clear c2
         try clear c2b0
         try clear c2b1
         try clear p2
         try clear c3
         try clear c3b0
         try clear c3b1
         try clear c6
         try clear c9
         try clear c9b0
         try clear c10
         try clear c10b0
         try clear c11
         try clear c11b0
         try clear c13
         try clear hcz14_0
         try clear hcz14_1
         try clear hcz14_2
         try clear hcz14_3
         try clear hcz14_4
         try clear hcz14_5
         try clear hcz5_0
         try clear hcz8_0
         try clear hfz14_0
         try clear hfz14_1
         try clear hfz14_2
         try clear hfz14_3
         try clear hfz14_4
         try clear hfz14_5
         try clear hfz5_0
         try clear hfz8_0
         try clear hx162_0
         try clear hx162_1
         try clear hx162_2
         try clear hx162_3
         try clear hx162_4
         try clear hx162_5
         try clear p162
         try clear p2
         try clear q162
         obtain ⟨x3_2, x22_2, rfl, HA, HK2, HO_3, BK158, BK163, HB⟩ := hrel
         cases gk with
         | zero => exact absurd HA.out (by simp [zaR.l1])
         | succ k2 =>
          have H := HA.out
          clear HA
          simp only [zaR.l1] at H
          by_cases c15 : x22_2 < (((zae l0_0 x15_1).f2).length : Int)
          ·rw [if_pos c15] at H
           have c15b0 : decide (x22_2 < (((zae l0_0 x15_1).f2).length : Int)) = true := decide_eq_true c15
           clear c15
           by_cases c16 : 0 ≤ x22_2
           ·rw [if_pos c16] at H
            have c16b0 : decide (0 ≤ x22_2) = true := decide_eq_true c16
            clear c16
            by_cases c17 : x22_2 < (((zae l0_0 x15_1).f2).length : Int)
            ·rw [if_pos c17] at H
             have c17b0 : decide (x22_2 < (((zae l0_0 x15_1).f2).length : Int)) = true := decide_eq_true c17
             clear c17
             by_cases c18 : 0 ≤ ((zat ((zae l0_0 x15_1).f2) x22_2).f1)
             ·rw [if_pos c18] at H
              have c18b0 : decide (0 ≤ ((zat ((zae l0_0 x15_1).f2) x22_2).f1)) = true := decide_eq_true c18
              clear c18
              by_cases c19 : ((zat ((zae l0_0 x15_1).f2) x22_2).f1) < (x3_2.length : Int)
              ·rw [if_pos c19] at H
               have c19b0 : decide (((zat ((zae l0_0 x15_1).f2) x22_2).f1) < (x3_2.length : Int)) = true := decide_eq_true c19
               clear c19
               obtain ⟨y167, hy167⟩ : ∃ y_ : List Int, y_ = (x3_2.set (((zat ((zae l0_0 x15_1).f2) x22_2).f1) : Int).toNat (wrap64 ((rd x3_2 ((zat ((zae l0_0 x15_1).f2) x22_2).f1)) + 1))) := ⟨_, rfl⟩
               replace H : (zaR.l1 k2 y167 l0_0 (l0_0.length : Int) x15_1 ((zae l0_0 x15_1).f2) (((zae l0_0 x15_1).f2).length : Int) (wrap64 (x22_2 + 1))) = some r := by first | (rw [hy167]; with_reducible exact H) | (have H2_ := (Option.bind_some _ _).symm.trans H; rw [hy167]; with_reducible exact H2_) | (have H2_ := (Option.bind_some _ _).symm.trans H; with_reducible exact H2_) | with_reducible exact H | (rw [hy167]; exact H) | exact H
               have Ny167 := zaa.mk hy167
               clear hy167
               have H' := zaa.mk H
               clear H
               have p164 : 0 ≤ (x22_2 : Int) := of_decide_eq_true (by first | (with_reducible assumption) | assumption)
               have q164 : x22_2 < (((zae l0_0 x15_1).f2).length : Int) := of_decide_eq_true (by first | (with_reducible assumption) | assumption)
               obtain ⟨ad164, e164, hx164_0, hx164_1⟩ := zce HR162_2.out x22_2 p164 q164
               cases e164
               replace hx164_0 := (HB.out.cell (World.block_lt_of_cell? w _ hx164_0)).trans hx164_0
               replace hx164_1 := (HB.out.cell (World.block_lt_of_cell? w _ hx164_1)).trans hx164_1
               replace p164 := eq_true p164
               replace q164 := eq_true q164
               go_wp2_with (first | ((with_reducible refine zaT (N := 7) rfl ?_); refine zaN ?hg (N := 7) ?hd (cs := #[.string (⟨#[]⟩ : ByteArray), .int .i64 0]) (t := 66) ?hr ?_; (case hd => rfl); (case hg => rfl); (case hr => first | (go_simp; done) | (go_simp; rfl)); intro gb165 hg w21 hbox hb; have n0_ := zaa.mk (Kd.zcz (by (with_reducible repeat (first | apply Kd.zbP | apply Kd.zb4 | apply Kd.zcm)); exact HO_3.out) hb); have n1_ := zaa.mk (zaq (g := gb158) (o := .cells #[.slice (some ad162) l0_0.length c0_0] 24 (0, 0)) (by (with_reducible repeat (first | refine zak ?_ _ | refine zam ?_ | refine zaj ?_ _)); exact BK158.out) hb); have n2_ := zaa.mk (zaq (g := gb163) (o := .cells #[.int .i64 ((zae l0_0 x15_1).f0), .slice A162_1 ((zae l0_0 x15_1).f1).length c162_1, .slice (some ad164) ((zae l0_0 x15_1).f2).length c162_2, .string ((zae l0_0 x15_1).f3), .int .i64 ((zae l0_0 x15_1).f4), .int .i64 ((zae l0_0 x15_1).f5)] 45 (0, 0)) (by (with_reducible repeat (first | refine zak ?_ _ | refine zam ?_ | refine zaj ?_ _)); exact BK163.out) hb); have n3_ := zaa.mk (zai (by repeat (first | (with_reducible first | exact HB.out | apply zac | apply zab | apply zad | refine zal ?_ GE158.out | refine zal ?_ GE163.out) | exact HB.out)) hb); have n4_ := zaa.mk (hbox); have n5_ := zaa.mk ((by rw [hg]; exact (zao (by repeat (first | (with_reducible first | exact HB.out | apply zac | apply zab | apply zad | refine zal ?_ GE158.out | refine zal ?_ GE163.out) | exact HB.out))) : w.heap.size ≤ gb165)); have n6_ := zaa.mk ((by rw [hg]; exact (zao (by repeat (first | (with_reducible first | exact HB.out | apply zac | apply zab | apply zad | refine zal ?_ GE158.out | refine zal ?_ GE163.out) | exact HB.out))) : w.heap.size ≤ gb165)); have n7_ := zaa.mk ((by rw [hg]; exact Nat.ne_of_lt (zaV (g := gb158) (o := .cells #[.slice (some ad162) l0_0.length c0_0] 24 (0, 0)) (by (with_reducible repeat (first | refine zak ?_ _ | refine zam ?_ | refine zaj ?_ _)); exact BK158.out)) : gb158 ≠ gb165)); have n8_ := zaa.mk ((by rw [hg]; exact Nat.ne_of_gt (zaV (g := gb158) (o := .cells #[.slice (some ad162) l0_0.length c0_0] 24 (0, 0)) (by (with_reducible repeat (first | refine zak ?_ _ | refine zam ?_ | refine zaj ?_ _)); exact BK158.out)) : gb165 ≠ gb158)); have n9_ := zaa.mk ((by rw [hg]; exact Nat.ne_of_lt (zaV (g := gb163) (o := .cells #[.int .i64 ((zae l0_0 x15_1).f0), .slice A162_1 ((zae l0_0 x15_1).f1).length c162_1, .slice (some ad164) ((zae l0_0 x15_1).f2).length c162_2, .string ((zae l0_0 x15_1).f3), .int .i64 ((zae l0_0 x15_1).f4), .int .i64 ((zae l0_0 x15_1).f5)] 45 (0, 0)) (by (with_reducible repeat (first | refine zak ?_ _ | refine zam ?_ | refine zaj ?_ _)); exact BK163.out)) : gb163 ≠ gb165)); have n10_ := zaa.mk ((by rw [hg]; exact Nat.ne_of_gt (zaV (g := gb163) (o := .cells #[.int .i64 ((zae l0_0 x15_1).f0), .slice A162_1 ((zae l0_0 x15_1).f1).length c162_1, .slice (some ad164) ((zae l0_0 x15_1).f2).length c162_2, .string ((zae l0_0 x15_1).f3), .int .i64 ((zae l0_0 x15_1).f4), .int .i64 ((zae l0_0 x15_1).f5)] 45 (0, 0)) (by (with_reducible repeat (first | refine zak ?_ _ | refine zam ?_ | refine zaj ?_ _)); exact BK163.out)) : gb165 ≠ gb163)); clear HO_3; clear BK158; clear BK163; clear HB; have HO_3 := n0_; have BK158 := n1_; have BK163 := n2_; have HB := n3_; have BK165 := n4_; have GW165 := n5_; have GE165 := n6_; have NB158_165 := n7_; have NB165_158 := n8_; have NB163_165 := n9_; have NB165_163 := n10_; clear n0_ n1_ n2_ n3_ n4_ n5_ n6_ n7_ n8_ n9_ n10_; clear hb hbox hg; have hnb22 := NB165_158.out; have hnc22 := NB158_165.out; have hnb23 := NB165_163.out; have hnc23 := NB163_165.out; have hcz24_0 : w21.cell? ⟨gb165, 0, none⟩ = some (.string (⟨#[]⟩ : ByteArray)) := (zah BK165.out 0).trans rfl; have hcz24_1 : w21.cell? ⟨gb165, 1, none⟩ = some (.int .i64 0) := (zah BK165.out 1).trans rfl; have hfz24_0 := zaf BK165.out 0; have hfz24_1 := zaf BK165.out 1) | ((with_reducible refine gate_store (t := 66) (p := 7) rfl ?_); refine store_event (t := 66) (p := 7) (v := ?vo_w25) (w1 := ((w21.setCell ⟨gb165, 0, none⟩ (.string ((zat ((zae l0_0 x15_1).f2) x22_2).f0))).setCell ⟨gb165, 1, none⟩ (.int .i64 ((zat ((zae l0_0 x15_1).f2) x22_2).f1)))) ?hg ?ho ?hn ?hr ?_; (case ho => rfl); (case hg => rfl); (case hn => rfl); (case hr => first | (go_simp; done) | (go_simp; rfl)); intro w25 hw; have n0_ : zaa (Kd.R (Kd.int .i64) 3 w25 w.heap.size (fun _ => True) v160 x3_2) := ⟨(by rw [hw]; exact (by (with_reducible repeat (first | apply Kd.zbP | apply Kd.zb4 | apply Kd.zcm)); exact Kd.zby (Kd.R_far (p := ⟨gb165, 1, none⟩) (Kd.R_far (p := ⟨gb165, 0, none⟩) (Kd.zcn HO_3.out BK165.out (by decide)) (fun _ hk => hk.2) (.string ((zat ((zae l0_0 x15_1).f2) x22_2).f0))) (fun _ hk => hk.2) (.int .i64 ((zat ((zae l0_0 x15_1).f2) x22_2).f1))) (fun _ hk => trivial)))⟩; have n1_ : zaa (w25.heap[gb158]? = some (.cells #[.slice (some ad162) l0_0.length c0_0] 24 (0, 0))) := ⟨(by rw [hw]; exact (by (with_reducible repeat (first | refine zak ?_ _ | refine zam ?_ | refine zaj ?_ _)); refine zaC ?_ NB158_165.out _; (with_reducible repeat (first | refine zak ?_ _ | refine zam ?_ | refine zaj ?_ _)); refine zaC ?_ NB158_165.out _; (with_reducible repeat (first | refine zak ?_ _ | refine zam ?_ | refine zaj ?_ _)); exact BK158.out))⟩; have n2_ : zaa (w25.heap[gb163]? = some (.cells #[.int .i64 ((zae l0_0 x15_1).f0), .slice A162_1 ((zae l0_0 x15_1).f1).length c162_1, .slice (some ad164) ((zae l0_0 x15_1).f2).length c162_2, .string ((zae l0_0 x15_1).f3), .int .i64 ((zae l0_0 x15_1).f4), .int .i64 ((zae l0_0 x15_1).f5)] 45 (0, 0))) := ⟨(by rw [hw]; exact (by (with_reducible repeat (first | refine zak ?_ _ | refine zam ?_ | refine zaj ?_ _)); refine zaC ?_ NB163_165.out _; (with_reducible repeat (first | refine zak ?_ _ | refine zam ?_ | refine zaj ?_ _)); refine zaC ?_ NB163_165.out _; (with_reducible repeat (first | refine zak ?_ _ | refine zam ?_ | refine zaj ?_ _)); exact BK163.out))⟩; have n3_ : zaa (w25.heap[gb165]? = some (.cells #[.string ((zat ((zae l0_0 x15_1).f2) x22_2).f0), .int .i64 ((zat ((zae l0_0 x15_1).f2) x22_2).f1)] 66 (0, 0))) := ⟨(by rw [hw]; exact (by (with_reducible repeat (first | refine zak ?_ _ | refine zam ?_ | refine zaj ?_ _)); refine zaF (cs := #[.string ((zat ((zae l0_0 x15_1).f2) x22_2).f0), .int .i64 0]) ?_ 1 _ rfl; (with_reducible repeat (first | refine zak ?_ _ | refine zam ?_ | refine zaj ?_ _)); refine zaF (cs := #[.string (⟨#[]⟩ : ByteArray), .int .i64 0]) ?_ 0 _ rfl; (with_reducible repeat (first | refine zak ?_ _ | refine zam ?_ | refine zaj ?_ _)); exact BK165.out))⟩; have n4_ : zaa (Below w.heap.size w w25) := ⟨(by rw [hw]; exact (by repeat (first | (with_reducible first | exact HB.out | apply zac | apply zab | apply zad | refine zal ?_ GE158.out | refine zal ?_ GE163.out | refine zal ?_ GE165.out) | exact HB.out)))⟩; clear hw; clear HO_3; clear BK158; clear BK163; clear BK165; clear HB; have HO_3 := n0_; have BK158 := n1_; have BK163 := n2_; have BK165 := n3_; have HB := n4_; clear n0_ n1_ n2_ n3_ n4_; have hcz26_0 : w25.cell? ⟨gb165, 0, none⟩ = some (.string ((zat ((zae l0_0 x15_1).f2) x22_2).f0)) := (zah BK165.out 0).trans rfl; have hcz26_1 : w25.cell? ⟨gb165, 1, none⟩ = some (.int .i64 ((zat ((zae l0_0 x15_1).f2) x22_2).f1)) := (zah BK165.out 1).trans rfl; have hfz26_0 := zaf BK165.out 0; have hfz26_1 := zaf BK165.out 1; obtain ⟨Ao27, co27, eo27⟩ := Kd.zco HO_3.out; subst eo27; have p166 : 0 ≤ (((zat ((zae l0_0 x15_1).f2) x22_2).f1) : Int) := of_decide_eq_true (by first | (with_reducible assumption) | assumption); have q166 : ((zat ((zae l0_0 x15_1).f2) x22_2).f1) < (x3_2.length : Int) := of_decide_eq_true (by first | (with_reducible assumption) | assumption); obtain ⟨ad166, e166, hx166_0⟩ := Kd.at_int (Kd.zbL HO_3.out).2.2 ((zat ((zae l0_0 x15_1).f2) x22_2).f1) p166 q166; cases e166; replace p166 := eq_true p166; replace q166 := eq_true q166; have p20 : 0 ≤ (((zat ((zae l0_0 x15_1).f2) x22_2).f1) : Int) := of_decide_eq_true (by first | (with_reducible assumption) | assumption); have q20 : (((zat ((zae l0_0 x15_1).f2) x22_2).f1) : Int) < ((x3_2.length : Int) : Int) := of_decide_eq_true (by first | (with_reducible assumption) | assumption); obtain ⟨go20, co20, eo20, gb20, gl20, cl20, HG20⟩ := Kd.R_form HO_3.out (by omega); (first | cases eo20 | (injection eo20 with ea_ en_ ec_; (first | subst ea_ | (injection ea_ with ea_; subst ea_)); subst ec_; clear en_)); have GB20 := zaa.mk gb20; have GG20 := zaa.mk HG20; clear gb20 gl20 HG20; (first | simp only [add_plain] at hx166_0 | skip); obtain ⟨hx20_0, hf20_0⟩ := Kd.R_celln 0 HO_3.out (((zat ((zae l0_0 x15_1).f2) x22_2).f1) : Int) p20 q20; replace p20 := eq_true p20; replace q20 := eq_true q20; obtain ⟨hy28_, hz28_⟩ := Kd.R_celln 0 HO_3.out (((zat ((zae l0_0 x15_1).f2) x22_2).f1) : Int) (of_decide_eq_true (by first | (with_reducible assumption) | assumption)) (of_decide_eq_true (by first | (with_reducible assumption) | assumption)); have HP28 := Kd.R_putg HO_3.out (((zat ((zae l0_0 x15_1).f2) x22_2).f1) : Int) (wrap64 ((rd x3_2 ((zat ((zae l0_0 x15_1).f2) x22_2).f1)) + 1))) | ((with_reducible refine gate_store (t := 3) (p := 32) rfl ?_); refine store_event (t := 3) (p := 32) (v := ?vo_w29) (w1 := (w25.setCell ⟨go20, (((zat ((zae l0_0 x15_1).f2) x22_2).f1) : Int).toNat, none⟩ (.int .i64 (wrap64 ((rd x3_2 ((zat ((zae l0_0 x15_1).f2) x22_2).f1)) + 1))))) ?hg ?ho ?hn ?hr ?_; (case ho => rfl); (case hg => rfl); (case hn => rfl); (case hr => first | (go_simp; done) | (go_simp; rfl)); intro w29 hw; have hg : w25.grownBy w29 (some go20) := (by rw [hw]; exact HP28.2); have hp_ : Kd.R (Kd.int .i64) 3 w29 w.heap.size (fun _ => True) (.slice (some ⟨go20, 0, none⟩) x3_2.length co27) y167 := (by rw [hw, Ny167.out]; exact HP28.1); clear HP28; have n0_ := zaa.mk (hp_); have n1_ := zaa.mk (zbr (g := gb158) (o := .cells #[.slice (some ad162) l0_0.length c0_0] 24 (0, 0)) (by (with_reducible repeat (first | refine zak ?_ _ | refine zam ?_ | refine zaj ?_ _)); exact BK158.out) hg (Kd.R_ne HO_3.out BK158.out (by decide))); have n2_ := zaa.mk (zbr (g := gb163) (o := .cells #[.int .i64 ((zae l0_0 x15_1).f0), .slice A162_1 ((zae l0_0 x15_1).f1).length c162_1, .slice (some ad164) ((zae l0_0 x15_1).f2).length c162_2, .string ((zae l0_0 x15_1).f3), .int .i64 ((zae l0_0 x15_1).f4), .int .i64 ((zae l0_0 x15_1).f5)] 45 (0, 0)) (by (with_reducible repeat (first | refine zak ?_ _ | refine zam ?_ | refine zaj ?_ _)); exact BK163.out) hg (Kd.R_ne HO_3.out BK163.out (by decide))); have n3_ := zaa.mk (zbr (g := gb165) (o := .cells #[.string ((zat ((zae l0_0 x15_1).f2) x22_2).f0), .int .i64 ((zat ((zae l0_0 x15_1).f2) x22_2).f1)] 66 (0, 0)) (by (with_reducible repeat (first | refine zak ?_ _ | refine zam ?_ | refine zaj ?_ _)); exact BK165.out) hg (Kd.R_ne HO_3.out BK165.out (by decide))); have n4_ := zaa.mk ((by rw [hw]; exact zal (HB.out) GB20.out : Below w.heap.size w w29)); clear HO_3; clear BK158; clear BK163; clear BK165; clear HB; have HO_3 := n0_; have BK158 := n1_; have BK163 := n2_; have BK165 := n3_; have HB := n4_; clear n0_ n1_ n2_ n3_ n4_; clear hg hw hp_))
               go_roundg k2
               case measure => have := HK1.out; have := HK2.out; omega
               case rel => exact ⟨(y167), (wrap64 (x22_2 + 1)), (by first | rfl | (simp; done) | (simp [*]; done)), H', ⟨by have := HK1.out; have := HK2.out; omega⟩, ⟨by (with_reducible repeat (first | apply Kd.zbP | apply Kd.zb4 | apply Kd.zcm)); exact HO_3.out⟩, ⟨by (with_reducible repeat (first | refine zak ?_ _ | refine zam ?_ | refine zaj ?_ _)); exact BK158.out⟩, ⟨by (with_reducible repeat (first | refine zak ?_ _ | refine zam ?_ | refine zaj ?_ _)); exact BK163.out⟩, ⟨by repeat (first | (with_reducible first | exact HB.out | apply zac | apply zab | apply zad | refine zal ?_ GE158.out | refine zal ?_ GE163.out | refine zal ?_ GE165.out) | exact HB.out)⟩⟩
              ·rw [if_neg c19] at H
               exact absurd H (by simp)
             ·rw [if_neg c18] at H
              exact absurd H (by simp)
            ·rw [if_neg c17] at H
             exact absurd H (by simp)
           ·rw [if_neg c16] at H
            exact absurd H (by simp)
          ·rw [if_neg c15] at H
           have c15b0 : decide (x22_2 < (((zae l0_0 x15_1).f2).length : Int)) = false := decide_eq_false c15
           clear c15
           have H' := zaa.mk H
           clear H
           go_wp2
           go_roundg k2
           case measure => have := HK1.out; have := HK2.out; omega
           case rel => exact ⟨(x3_2), (wrap64 (x15_1 + 1)), (by first | rfl | (simp; done) | (simp [*]; done)), H', ⟨by have := HK1.out; have := HK2.out; omega⟩, ⟨by (with_reducible repeat (first | apply Kd.zbP | apply Kd.zb4 | apply Kd.zcm)); exact HO_3.out⟩, ⟨by (with_reducible repeat (first | refine zak ?_ _ | refine zam ?_ | refine zaj ?_ _)); exact BK158.out⟩, ⟨by repeat (first | (with_reducible first | exact HB.out | apply zac | apply zab | apply zad | refine zal ?_ GE158.out | refine zal ?_ GE163.out) | exact HB.out)⟩⟩
       ·rw [if_neg c11] at H
        exact absurd H (by simp)
      ·rw [if_neg c10] at H
       exact absurd H (by simp)
     ·rw [if_neg c9] at H
      have c9b0 : decide (x15_1 < (l0_0.length : Int)) = false := decide_eq_false c9
      clear c9
      obtain rfl := Option.some.inj H
      go_wp2
      go_ret
      exact ⟨_, by first | rfl | (simp [zas, zar] <;> rfl) | (simp [*, zas, zar] <;> rfl), by (with_reducible repeat (first | apply Kd.zbP | apply Kd.zb4 | apply Kd.zcm)); exact HO_3.out, by repeat (first | (with_reducible first | exact HB.out | apply zac | apply zab | apply zad | refine zal ?_ GE158.out) | exact HB.out)⟩
  ·rw [if_neg c3] at H
   exact absurd H (by simp)
 ·rw [if_neg c2] at H
  exact absurd H (by simp)
def WalkSt (W : World) (B g : Nat) (A : Option Addr) (n c : Nat) (s : List Bool) (q : List Int) : Prop :=
 B ≤ g ∧ ∃ sv tv, W.heap[g]? = some (.cells #[.slice A n c, sv, tv] 104 (0, 0)) ∧ Kd.R Kd.bool 4 W B (fun _ => True) sv s ∧ Kd.Q (Kd.int .i64) 3 W B (fun _ => True) tv q
def newDir (l : List S45) (s : List Bool) (x : Int) : Bool := ((zae l x).f0 == 2) && !(rdOf false s x)
def meetF (l : List S45) (st : List Bool × List Int) (x : Int) : List Bool × List Int := if newDir l st.1 x = true then (st.1.set x.toNat true, st.2 ++ [x]) else st
set_option maxHeartbeats 2000000 in
set_option maxRecDepth 100000 in
theorem meet_calls (l : List S45) (A : Option Addr) (c g : Nat) (s : List Bool) (q : List Int) (x : Int) (w0 w : World) (hr : Kd.C k45 w0 A l.length l) (hb : Below w0.heap.size w0 w) (hst : WalkSt w w0.heap.size g A l.length c s q)
  (h0 : 0 ≤ x) (h1 : x < (l.length : Int)) (hs : s.length = l.length) (hq : q.length < 17592186044416) :
  Calls Try.prog 74 #[.pointer (some ⟨g, 0, none⟩), .int .i64 x] w fun e w' => e = .returned (.tuple #[]) ∧ WalkSt w' w0.heap.size g A l.length c (meetF l (s, q) x).1 (meetF l (s, q) x).2 ∧ Below w0.heap.size w0 w' := by
 have HW0 := zaa.mk hst
 obtain ⟨hg0, sv, tv, hg, hR, hQ⟩ := hst
 obtain ⟨ad, A1, c1, A2, c2, rfl, hx0, hx1, hx2, hx3, hx4, hx5, hl1, hi1, hl2, hi2⟩ := zbn hr x h0 h1
 clear hx1 hx2 hx3 hx4 hx5 hl1 hi1 hl2 hi2
 replace hx0 := (hb.cell (World.block_lt_of_cell? w0 _ hx0)).trans hx0
 obtain ⟨sg, cap, rfl, hsg, hsl, cells, hsb⟩ := Kd.R_form hR (by omega)
 obtain ⟨hsc, hsf⟩ := Kd.R_cell false hR x h0 (by omega)
 obtain ⟨tA, tc, rfl, _⟩ := Kd.Q_slice hQ
 have hc0 : w.cell? ⟨g, 0, none⟩ = some (.slice (some ad) l.length c) := (zah hg 0).trans rfl
 have hc1 : w.cell? ⟨g, 1, none⟩ = some (.slice (some ⟨sg, 0, none⟩) s.length cap) := (zah hg 1).trans rfl
 have hc2 : w.cell? ⟨g, 2, none⟩ = some (.slice tA q.length tc) := (zah hg 2).trans rfl
 have p0 := eq_true h0
 have p1 := eq_true h1
 have p2 := eq_true (show x < (s.length : Int) by omega)
 by_cases ck : (zae l x).f0 = 2
 ·have hk : ((zae l x).f0 == 2) = true := by simpa using ck
  cases hsn : rdOf false s x
  ·have HM : zaa (meetF l (s, q) x = (s.set x.toNat true, q ++ [x])) := ⟨by unfold meetF newDir; simp [ck, hsn]⟩
   rw [hsn] at hsc
   have hne : g ≠ sg := blk_ne hg hsb (by decide)
   have HR1 := zaa.mk (Kd.R_put hR x true).1
   have HQ1 := zaa.mk (Kd.Q_set hQ hsb (by decide) x.toNat (.bool true))
   have HG1 := zaa.mk (zaC hg (p := ⟨sg, x.toNat, none⟩) hne (.bool true))
   have HB1 := zaa.mk (hb.setCell (p := ⟨sg, x.toNat, none⟩) hsg (.bool true))
   have hd2 : (w.setCell ⟨sg, x.toNat, none⟩ (.bool true)).cell? ⟨g, 2, none⟩ = some (.slice tA q.length tc) := (zah HG1.out 2).trans rfl
   have HNE := zaa.mk (Kd.Q_ne HQ1.out HG1.out (by decide))
   have HQL := zaa.mk hq
   clear ck hsn hR hQ hg hsb hb hq
   go_enter Try.func74, Try.ntmps74
   go_wp2_with (first | (at_builtin; refine Kd.Q_append (Kd.int .i64) (w0 := w0) w0.heap.size rfl (.tmp 34) (.tmp 36) 88 3 (.int .i64 0) 8 rfl Try.underlying88 info3 rfl (by decide) (by omega) (.slice tA q.length tc) q x [.int .i64 x] (fun _ => True) (fun _ => False) rfl ?hx ?hp (fun _ hk => hk.elim) (fun _ _ => trivial) ?ho ?hb ?hs ?hl ?_; (case hx => exact congrArg (fun n => Value.slice (some ⟨n, 0, none⟩) 1 1) (show w.heap.size = (w.setCell ⟨sg, x.toNat, none⟩ (.bool true)).heap.size by simp [World.setCell])); (case hp => exact rfl); (case ho => exact HQ1.out); (case hb => exact HB1.out); (case hs => exact HB1.out.size); (case hl => have := HQL.out; omega); intro v1 w2 hq2 hb2 hg2 hat; obtain ⟨tA2, tc2, rfl, _⟩ := Kd.Q_slice hq2; have HQ2 := zaa.mk hq2; have HB2 := zaa.mk hb2; have HG2 := zaa.mk (zbr HG1.out hg2 HNE.out); have HR2 := zaa.mk (Kd.R_over' HR1.out (Kd.Q_typed HQ1.out) (by decide) hg2); have hd3 : w2.cell? ⟨g, 2, none⟩ = some (.slice tA q.length tc) := (zah HG2.out 2).trans rfl; have hf3 : w2.frozen? ⟨g, 2, none⟩ = false := zaf HG2.out 2; clear hq2 hb2 hg2 hat))
   go_end0
   refine ⟨rfl, ?_, HB2.out.setCell (p := ⟨g, 2, none⟩) hg0 _⟩
   rw [HM.out]
   have HQ3 := Kd.Q_set HQ2.out HG2.out (by decide) 2 (.slice tA2 (q.length + 1) tc2)
   rw [show (q ++ [x]).length = q.length + 1 by simp] at HQ3
   exact ⟨hg0, _, _, zaF HG2.out 2 _ rfl, Kd.R_set HR2.out HG2.out (by decide) 2 _, HQ3⟩
  ·have HM : zaa (meetF l (s, q) x = (s, q)) := ⟨by unfold meetF newDir; simp [ck, hsn]⟩
   rw [hsn] at hsc
   have HB0 := zaa.mk hb
   clear ck hsn hR hQ hg hsb hb hq
   go_enter Try.func74, Try.ntmps74
   go_wp2
   go_end0
   exact ⟨rfl, by rw [HM.out]; exact HW0.out, HB0.out⟩
 ·have hk : ((zae l x).f0 == 2) = false := by simpa using ck
  have HM : zaa (meetF l (s, q) x = (s, q)) := ⟨by unfold meetF newDir; simp [ck]⟩
  have HB0 := zaa.mk hb
  clear ck hR hQ hg hsb hb hq
  go_enter Try.func74, Try.ntmps74
  go_wp2
  go_end0
  exact ⟨rfl, by rw [HM.out]; exact HW0.out, HB0.out⟩
theorem WalkSt.alloc {W : World} {B g : Nat} {A : Option Addr} {n c : Nat} {s : List Bool} {q : List Int} (h : WalkSt W B g A n c s q) (o : Obj) : WalkSt (W.alloc o) B g A n c s q := by
 obtain ⟨h0, sv, tv, hg, hR, hQ⟩ := h
 exact ⟨h0, sv, tv, ((zac (Below.refl W.heap.size W) o).block g (zaV hg)).trans hg, Kd.zbP hR o, Kd.Q_alloc hQ o⟩
theorem meetF_len (l : List S45) (st : List Bool × List Int) (x : Int) : (meetF l st x).1.length = st.1.length := by
 unfold meetF; split <;> simp
def meets (l : List S45) : List S66 → List Bool × List Int → Option (List Bool × List Int)
 | [], st => some st
 | x :: r, st => if 0 ≤ x.f1 ∧ x.f1 < (l.length : Int) ∧ st.2.length < 17592186044416 then meets l r (meetF l st x.f1) else none
theorem meets_drop (l : List S45) (ns : List S66) (i : Nat) (h : i < ns.length) (st : List Bool × List Int) : meets l (ns.drop i) st = if 0 ≤ (zat ns i).f1 ∧ (zat ns i).f1 < (l.length : Int) ∧ st.2.length < 17592186044416 then meets l (ns.drop (i + 1)) (meetF l st (zat ns i).f1) else none := by
 rw [List.drop_eq_getElem_cons h]
 have e : zat ns (i : Int) = ns[i] := by simp [zat, List.getD, List.getElem?_eq_getElem h]
 rw [meets, e]
def reachF : Nat → List S45 → List Bool → List Int → Option (List Bool)
 | 0, _, _, _ => none
 | k + 1, l, s, q => match q with
  | [] => some s
  | n :: q' => if 0 ≤ n ∧ n < (l.length : Int) then (meets l (zae l n).f2 (s, q')).bind fun st => reachF k l st.1 st.2 else none
theorem reachF_mono : ∀ k l s q, LeO (reachF k l s q) (reachF (k + 1) l s q)
 | 0, _, _, _ => fun _ h => by simp [reachF] at h
 | k + 1, l, s, q => by
  unfold reachF
  split
  ·exact LeO.refl _
  ·refine LeO.ite (LeO.bind (LeO.refl _) fun st => ?_) (LeO.refl _)
   exact reachF_mono k l st.1 st.2
def zaz.f (k : Nat) (l0_0 : List S45) : Option (List Bool) := if 0 < l0_0.length then (if l0_0.length ≤ 281474976710656 then reachF k l0_0 (meetF l0_0 (List.replicate l0_0.length false, []) 0).1 (meetF l0_0 (List.replicate l0_0.length false, []) 0).2 else none) else none
theorem zaz.mono : ∀ a0 k, LeO (zaz.f k a0) (zaz.f (k + 1) a0) := fun a0 k => LeO.ite (LeO.ite (reachF_mono _ _ _ _) (LeO.refl _)) (LeO.refl _)
def zaz.W1 (w : World) (A : Option Addr) (n c : Nat) : World := w.alloc (.cells #[.slice A n c] 24)
def zaz.W (w : World) (A : Option Addr) (n c : Nat) : World := (((w.alloc (.cells #[.slice A n c] 24)).alloc (.cells (madeCells #[.bool false] n) 4)).alloc (.cells #[.slice A n c, .slice (some ⟨w.heap.size + 1, 0, none⟩) n n, .slice none 0 0] 104)).drew
theorem zaz.W_below (w : World) (A : Option Addr) (n c : Nat) : Below (zaz.W1 w A n c).heap.size (zaz.W1 w A n c) (zaz.W w A n c) := zaH (zac (zac (Below.refl _ _) _) _)
theorem zaz.za9 (w : World) (A : Option Addr) (n c : Nat) : Below w.heap.size w (zaz.W1 w A n c) := zac (Below.refl _ _) _
theorem zaz.W_st (w : World) (A : Option Addr) (n c : Nat) (hn : n ≤ 9223372036854775807) : WalkSt (zaz.W w A n c) (zaz.W1 w A n c).heap.size (w.heap.size + 1 + 1) A n c (List.replicate n false) [] := by
 have h2 := own_made_of (enc := Value.bool) (d := false) (zaz.W1 w A n c) (zaz.W1 w A n c).heap.size 4 n (Nat.le_refl _) hn
 have h3 := zbC (((w.alloc (.cells #[.slice A n c] 24)).alloc (.cells (madeCells #[.bool false] n) 4))) (.cells #[.slice A n c, .slice (some ⟨w.heap.size + 1, 0, none⟩) n n, .slice none 0 0] 104)
 rw [World.size_alloc, World.size_alloc] at h3
 have e1 : (zaz.W1 w A n c).heap.size = w.heap.size + 1 := World.size_alloc _ _
 refine ⟨by omega, _, _, h3, ?_, Kd.Q_nil _ _ _ _ _⟩
 rw [e1] at h2 ⊢
 have h4 : (((zaz.W1 w A n c).alloc (.cells (madeCells #[.bool false] n) 4))).ownsRow (w.heap.size + 1) 4 1 (.slice (some ⟨w.heap.size + 1, 0, none⟩) n n) (List.replicate n false).length (encs Value.bool (List.replicate n false)) := by rw [List.length_replicate]; exact h2
 have h5 := Kd.R_of_own (ok := fun _ => True) (h1 := fun _ => rfl) h4 (fun _ _ => trivial)
 exact Kd.zcm (Kd.zbP h5 _)
theorem zaz.zb6 {w w' : World} {A : Option Addr} {n c : Nat} (h : Below (zaz.W1 w A n c).heap.size (zaz.W1 w A n c) w') : w'.cell? ⟨w.heap.size, 0, none⟩ = some (.slice A n c) :=
 (zah ((h.block w.heap.size (by show _ < (w.alloc _).heap.size; simp)).trans (zbC w _)) 0).trans rfl
set_option maxHeartbeats 4000000 in
set_option maxRecDepth 100000 in
theorem zaz.calls (k : Nat) (A0_0 : Option Addr) (c0_0 : Nat) (l0_0 : List S45) (r : List Bool) (w : World) (hr0_0 : Kd.C k45 w A0_0 l0_0.length l0_0) (hc0_0 : l0_0.length ≤ c0_0) (h : zaz.f k l0_0 = some r) :
  Calls Try.prog 61 #[.agg #[.slice A0_0 l0_0.length c0_0]] w fun e w' => ∃ v0_ : Value, e = .returned (v0_) ∧ Kd.R Kd.bool 4 w' w.heap.size (fun _ => True) v0_ r ∧ Below w.heap.size w w' := by
 unfold zaz.f at h
 split at h
 ·rename_i hp
  split at h
  ·rename_i hm
   have HH := zaa.mk h
   have HR := zaa.mk hr0_0
   have HP := zaa.mk hp
   have HL := zaa.mk (show l0_0.length ≤ 9223372036854775807 by omega)
   have hmk := print_make_of (P := Try.prog) 90 4 (.bool false) 1 Try.underlying90 (by kernel_rfl) rfl (by decide) l0_0.length (by omega)
   have hut := Try.underlying24
   have huw := Try.underlying104
   have hun := Try.underlying66
   have hmf : ∀ (fn : Fn) (first cap : Array Value) (w : World), (Instr.makeFunc fn first cap).run Try.prog w = .ok (.func fn first cap) w := fun _ _ _ _ => rfl
   clear h hr0_0 hc0_0 hp hm
   have HR1 := zaa.mk (Kd.C_below HR.out (zaz.za9 w A0_0 l0_0.length c0_0))
   have hmf : ∀ (fn : Fn) (first cap : Array Value) (w : World), (Instr.makeFunc fn first cap).run Try.prog w = .ok (.func fn first cap) w := fun _ _ _ _ => rfl
   go_enter Try.func61, Try.ntmps61
   go_wp2
   go_region
   go_wp2_with (first | (go_at_call 74; refine (meet_calls l0_0 A0_0 c0_0 (w.heap.size + 1 + 1) (List.replicate l0_0.length false) [] 0 (zaz.W1 w A0_0 l0_0.length c0_0) (zaz.W w A0_0 l0_0.length c0_0) HR1.out (zaz.W_below _ _ _ _) (zaz.W_st _ _ _ _ HL.out) (by omega) (by have := HP.out; omega) (by simp) (by simp)).mono ?_; rintro e w1 ⟨rfl, hst, hb⟩; have HST := zaa.mk hst; have HB := zaa.mk hb; clear hst hb))
   go_loopg [] k (fun kq w' => ∃ (s : List Bool) (q : List Int), zaa (reachF kq l0_0 s q = some r) ∧ zaa (kq ≤ k) ∧ zaa (s.length = l0_0.length) ∧ zaa (WalkSt w' (zaz.W1 w A0_0 l0_0.length c0_0).heap.size (w.heap.size + 1 + 1) A0_0 l0_0.length c0_0 s q) ∧ zaa (Below (zaz.W1 w A0_0 l0_0.length c0_0).heap.size (zaz.W1 w A0_0 l0_0.length c0_0) w'))
   case atStart => exact ⟨_, _, HH, ⟨Nat.le_refl _⟩, ⟨by rw [meetF_len]; simp⟩, HST, HB⟩
   case round =>
    clear HST HB
    obtain ⟨s, q, HE, HK, HSL, HST, HB⟩ := hrel
    cases gk with
    | zero => exact absurd HE.out (by simp [reachF])
    | succ k1 =>
     obtain ⟨hg0, sv, tv, hg, hR, hQ⟩ := HST.out
     obtain ⟨sA, sc, rfl⟩ := Kd.zco hR
     obtain ⟨tA, tc, rfl, htc⟩ := Kd.Q_slice hQ
     have hc1 : wr.cell? ⟨w.heap.size + 1 + 1, 1, none⟩ = some (.slice sA s.length sc) := (zah hg 1).trans rfl
     have hc2 : wr.cell? ⟨w.heap.size + 1 + 1, 2, none⟩ = some (.slice tA q.length tc) := (zah hg 2).trans rfl
     have hf2 : wr.frozen? ⟨w.heap.size + 1 + 1, 2, none⟩ = false := zaf hg 2
     have hct := zaz.zb6 HB.out
     have HG := zaa.mk hg
     have HRR := zaa.mk hR
     have HQ := zaa.mk hQ
     have HE' := HE.out
     clear hg hR hQ HE
     cases q with
     | nil =>
      rw [reachF] at HE'
      obtain rfl := Option.some.inj HE'
      go_wp2
      go_ret
      exact ⟨_, rfl, Kd.R_lower HRR.out (zaz.za9 w A0_0 l0_0.length c0_0).size, zai (zaz.za9 _ _ _ _) HB.out⟩
     | cons n q' =>
      rw [reachF] at HE'
      by_cases hn : 0 ≤ n ∧ n < (l0_0.length : Int)
      ·rw [if_pos hn] at HE'
       obtain ⟨st, hst, hrec⟩ := Option.bind_eq_some_iff.mp HE'
       obtain ⟨hn0, hn1⟩ := hn
       have HME := zaa.mk hst
       have HRE := zaa.mk hrec
       clear HE' hst hrec
       obtain ⟨_, _, hCq⟩ := Kd.Q_reads' HQ.out
       obtain ⟨qa, eqa, hq0⟩ := Kd.at_int hCq 0 (by omega) (by simp)
       subst eqa
       have hq0' : wr.cell? (qa.add 0) = some (.int .i64 n) := hq0
       have hq1' : wr.cell? qa = some (.int .i64 n) := by rw [← hq0']; congr 1
       obtain ⟨i0, hi0, _, hsz, _⟩ := info_parts info3
       have hcut := cut_from (P := Try.prog) 88 3 .i64 Try.underlying88 hi0 1 hsz (some qa) (n :: q').length tc 1 (by omega) (by simp; omega)
       have hQd := Kd.Q_drop (k := 1) HQ.out (by simp)
       obtain ⟨A', hA'⟩ : ∃ A1, A1 = (if tc = 1 then some qa else (some qa : Option Addr).map (·.add (1 * 1))) := ⟨_, rfl⟩
       have e1 : (1 : Int).toNat = 1 := rfl
       rw [e1, ← hA'] at hcut
       replace hQd : Kd.Q (Kd.int .i64) 3 wr (zaz.W1 w A0_0 l0_0.length c0_0).heap.size (fun _ => True) (.slice A' q'.length (tc - 1)) q' := by rw [hA']; exact hQd
       have ecut : (n :: q').length - 1 = q'.length := by simp
       rw [ecut] at hcut
       rw [List.length_cons] at hcut
       rw [List.length_cons] at hc2
       have HQD := zaa.mk hQd
       clear hQd e1 hA' ecut hq0 hCq hi0 hsz
       have HB2 := zaa.mk (HB.out.setCell (p := ⟨w.heap.size + 1 + 1, 2, none⟩) hg0 (.slice A' q'.length (tc - 1)))
       have HST2 : zaa (WalkSt (wr.setCell ⟨w.heap.size + 1 + 1, 2, none⟩ (.slice A' q'.length (tc - 1))) (zaz.W1 w A0_0 l0_0.length c0_0).heap.size (w.heap.size + 1 + 1) A0_0 l0_0.length c0_0 s q') := ⟨hg0, _, _, zaF HG.out 2 _ rfl, Kd.R_set HRR.out HG.out (by decide) 2 _, Kd.Q_set HQD.out HG.out (by decide) 2 _⟩
       have hct2 := zaz.zb6 HB2.out
       obtain ⟨na, A1, c1, A2, c2, rfl, hx0, hx1, hx2, hx3, hx4, hx5, hl1, hi1, hl2, hi2⟩ := zbn HR1.out n hn0 hn1
       replace hx2 := (HB2.out.cell (World.block_lt_of_cell? _ _ hx2)).trans hx2
       have HI2 := zaa.mk hi2
       have HL2 := zaa.mk hl2
       have HM2 := zaa.mk hi2.2.1
       have p0 := eq_true hn0
       have p1 := eq_true hn1
       clear hx0 hx1 hx3 hx4 hx5 hl1 hi1 hi2 hl2 HB HG HRR HQD HQ HST hg0 htc
       go_wp2
       go_loopw [46] (fun v46 w' => ∃ i : Nat, i ≤ (zae l0_0 n).f2.length ∧ v46 = .int .i64 i ∧ ∃ st2 : List Bool × List Int, zaa (meets l0_0 ((zae l0_0 n).f2.drop i) st2 = some st) ∧ zaa (st2.1.length = l0_0.length) ∧ zaa (WalkSt w' (zaz.W1 w (some na) l0_0.length c0_0).heap.size (w.heap.size + 1 + 1) (some na) l0_0.length c0_0 st2.1 st2.2) ∧ zaa (Below (zaz.W1 w (some na) l0_0.length c0_0).heap.size (zaz.W1 w (some na) l0_0.length c0_0) w')) (fun v46 _ => (zae l0_0 n).f2.length - (intOf v46).toNat)
       case atStart => exact ⟨0, Nat.zero_le _, rfl, _, HME, HSL, HST2, HB2⟩
       case round =>
        clear HB2 HST2 hct2 hx2 hct hc1 hc2 hf2 hq0' hq1' hcut HME
        obtain ⟨i, hi, rfl, st2, HE2, HS2, HST, HB⟩ := hrel
        have hmax := HM2.out
        by_cases hlt : i < (zae l0_0 n).f2.length
        ·have hd := HE2.out
         rw [meets_drop l0_0 _ i hlt] at hd
         split at hd
         ·rename_i hc
          obtain ⟨hy0, hy1, hy2⟩ := hc
          have HME := zaa.mk hd
          obtain ⟨ad, rfl, hx0, hx1⟩ := zce HI2.out (i : Int) (by omega) (by omega)
          have HB1 := zaa.mk (zai (zaz.za9 _ _ _ _) HB.out)
          replace hx0 := (HB.out.cell (World.block_lt_of_cell? _ _ hx0)).trans hx0
          replace hx1 := (HB.out.cell (World.block_lt_of_cell? _ _ hx1)).trans hx1
          rw [Int.toNat_natCast] at hx0 hx1
          have HYH := zaa.mk (show _ ∧ _ ∧ _ from ⟨hy0, hy1, hy2⟩)
          clear hd hy0 hy1 hy2
          go_wp2_with (first | (go_at_call 74; refine (meet_calls l0_0 (some na) c0_0 (w.heap.size + 1 + 1) st2.1 st2.2 (zat (zae l0_0 n).f2 i).f1 (zaz.W1 w (some na) l0_0.length c0_0) _ HR1.out (zac HB.out _) (HST.out.alloc _) HYH.out.1 HYH.out.2.1 HS2.out HYH.out.2.2).mono ?_; rintro e w1 ⟨rfl, hst, hb⟩; have HST3 := zaa.mk hst; have HB3 := zaa.mk hb; clear hst hb))
          go_roundw
          case rel => exact ⟨i + 1, by omega, by go_num, _, HME, ⟨by rw [meetF_len]; exact HS2.out⟩, HST3, HB3⟩
          case measure => simp [intOf]; omega
         ·cases hd
        ·have hd := HE2.out
         rw [List.drop_eq_nil_of_le (by omega), meets] at hd
         obtain rfl := Option.some.inj hd
         clear hd
         go_wp2
         go_roundg k1
         case measure => have := HK.out; omega
         case rel => exact ⟨_, _, HRE, ⟨by have := HK.out; omega⟩, HS2, HST, HB⟩
      ·rw [if_neg hn] at HE'
       cases HE'
  ·cases h
 ·cases h
def nodeB (l : List S45) (x : S45) : Bool := (tree_node.f l x.f0 x.f1 x.f2 x.f3 x.f4 x.f5).getD false
set_option maxHeartbeats 1000000 in
theorem nodeB_f (l : List S45) (x : S45) : tree_node.f l x.f0 x.f1 x.f2 x.f3 x.f4 x.f5 = some (nodeB l x) := by
 unfold nodeB tree_node.f
 simp only [za7.f, zcq.f, zcg.f, strings_IndexByte.f, Option.bind_some]
 repeat' (first | rfl | (simp only [Option.bind_some]; split) | split)
 all_goals rfl
def nodesB (l : List S45) (n : Nat) : Bool := (List.range n).all fun i => nodeB l (zae l i)
theorem nodesB_succ (l : List S45) (n : Nat) : nodesB l (n + 1) = (nodesB l n && nodeB l (zae l n)) := by
 unfold nodesB; rw [List.range_succ, List.all_append]; simp
theorem nodesB_false {l : List S45} {i n : Nat} (hi : i < n) (h : nodeB l (zae l i) = false) : nodesB l n = false := by
 unfold nodesB
 rw [List.all_eq_false]
 exact ⟨i, List.mem_range.2 hi, by simp [h]⟩
def zbl (l : List S45) (L : List Int) (R : List Bool) (i : Nat) : Bool :=
 decide (0 < i) && ((zae l i).f4 != rdOf 0 L i || ((zae l i).f0 == 2 && (decide (1 < (zae l i).f4) || (((zae l i).f4 == 0 && decide (0 < (zae l i).f2.length)) || ((zae l i).f4 == 1 && !(rdOf false R i))))))
def lastB (l : List S45) (L : List Int) (R : List Bool) (n : Nat) : Bool := (List.range n).all fun i => !zbl l L R i
theorem zca (l : List S45) (L : List Int) (R : List Bool) (n : Nat) : lastB l L R (n + 1) = (lastB l L R n && !zbl l L R n) := by
 unfold lastB; rw [List.range_succ, List.all_append]; simp
theorem zcj {l : List S45} {L : List Int} {R : List Bool} {i n : Nat} (hi : i < n) (h : zbl l L R i = true) : lastB l L R n = false := by
 unfold lastB
 rw [List.all_eq_false]
 exact ⟨i, List.mem_range.2 hi, by simp [h]⟩
def zbO (l : List S45) : Bool := decide (0 < l.length) && decide (l.length ≤ 64) && !(decide (1 < l.length) && (zae l ((l.length : Int) - 1)).f0 == 0) && (zae l 0).f0 == 2 && (zae l 0).f4 == 1
def zaG.f (k : Nat) (l0_0 : List S45) : Option Bool := if zbO l0_0 = true then (if nodesB l0_0 l0_0.length = true then ((zaR.f k l0_0).bind fun L => (zaz.f k l0_0).bind fun R => if L.length = l0_0.length ∧ R.length = l0_0.length then some (lastB l0_0 L R l0_0.length) else none) else some false) else some false
theorem zaG.mono : ∀ a0 k, LeO (zaG.f k a0) (zaG.f (k + 1) a0) := fun a0 k => LeO.ite (LeO.ite (LeO.bind (zaR.mono _ _) fun _ => LeO.bind (zaz.mono _ _) fun _ => LeO.refl _) (LeO.refl _)) (LeO.refl _)
def zaG.W1 (w : World) (A : Option Addr) (n c : Nat) : World := w.alloc (.cells #[.slice A n c] 24)
theorem zaG.za9 (w : World) (A : Option Addr) (n c : Nat) : Below w.heap.size w (zaG.W1 w A n c) := zac (Below.refl _ _) _
theorem zaG.zb6 {w w' : World} {A : Option Addr} {n c : Nat} (h : Below (zaG.W1 w A n c).heap.size (zaG.W1 w A n c) w') : w'.cell? ⟨w.heap.size, 0, none⟩ = some (.slice A n c) :=
 (zah ((h.block w.heap.size (by show _ < (w.alloc _).heap.size; simp)).trans (zbC w _)) 0).trans rfl
set_option maxHeartbeats 8000000 in
set_option maxRecDepth 100000 in
theorem zaG.calls (k : Nat) (A0_0 : Option Addr) (c0_0 : Nat) (l0_0 : List S45) (r : Bool) (w : World) (hr0_0 : Kd.C k45 w A0_0 l0_0.length l0_0) (hc0_0 : l0_0.length ≤ c0_0) (h : zaG.f k l0_0 = some r) :
  Calls Try.prog 33 #[.agg #[.slice A0_0 l0_0.length c0_0]] w fun e w' => e = .returned (.bool r) ∧ Below w.heap.size w w' := by
 unfold zaG.f at h
 have HR := zaa.mk hr0_0
 have HC := zaa.mk hc0_0
 have hut := Try.underlying24
 have hun := Try.underlying45
 clear hr0_0 hc0_0
 by_cases c1 : 0 < l0_0.length
 ·have n1 : decide ((l0_0.length : Int) < 1) = false := decide_eq_false (by omega)
  have n1b : decide (l0_0.length < 1) = false := decide_eq_false (by omega)
  by_cases c2 : l0_0.length ≤ 64
  ·have n2 : decide ((64 : Int) < (l0_0.length : Int)) = false := decide_eq_false (by omega)
   have n2b : decide (64 < l0_0.length) = false := decide_eq_false (by omega)
   obtain ⟨ad, B1, d1, B2, d2, rfl, hx0, hx1, hx2, hx3, hx4, hx5, _, _, _, _⟩ := zbn HR.out 0 (by omega) (by omega)
   replace hx0 := ((zac (Below.refl w.heap.size w) (.cells #[.slice (some ad) l0_0.length c0_0] 24)).cell (World.block_lt_of_cell? _ _ hx0)).trans hx0
   replace hx4 := ((zac (Below.refl w.heap.size w) (.cells #[.slice (some ad) l0_0.length c0_0] 24)).cell (World.block_lt_of_cell? _ _ hx4)).trans hx4
   replace hx0 : (w.alloc (.cells #[.slice (some ad) l0_0.length c0_0] 24)).cell? ad = some (.int .i64 (zae l0_0 0).f0) := by rw [← hx0]; congr 1
   replace hx4 : (w.alloc (.cells #[.slice (some ad) l0_0.length c0_0] 24)).cell? ⟨ad.block, ad.off + 4, none⟩ = some (.int .i64 (zae l0_0 0).f4) := by rw [← hx4]; congr 1
   have hpos : 0 < l0_0.length := c1
   have hmax : l0_0.length ≤ 9223372036854775807 := by omega
   clear hx1 hx2 hx3 hx5
   have HC1 := zaa.mk c1
   have HC2 := zaa.mk c2
   clear c1 c2
   by_cases c3 : 1 < l0_0.length
   ·have n3 : decide ((1 : Int) < (l0_0.length : Int)) = true := decide_eq_true (by omega)
    have n3b : decide (1 < l0_0.length) = true := decide_eq_true (by omega)
    obtain ⟨ad3, B3, d3, B4, d4, e3, hz0, hz1, hz2, hz3, hz4, hz5, _, _, _, _⟩ := zbn HR.out ((l0_0.length : Int) - 1) (by omega) (by omega)
    cases e3
    replace hz0 := ((zac (Below.refl w.heap.size w) (.cells #[.slice (some ad) l0_0.length c0_0] 24)).cell (World.block_lt_of_cell? _ _ hz0)).trans hz0
    rw [show ((l0_0.length : Int) - 1).toNat = l0_0.length - 1 by omega] at hz0
    have hp3 : 1 ≤ l0_0.length := by omega
    clear hz1 hz2 hz3 hz4 hz5
    have HC3 := zaa.mk c3
    clear c3
    by_cases c4 : (zae l0_0 ((l0_0.length : Int) - 1)).f0 = 0
    ·have n4 : ((zae l0_0 ((l0_0.length : Int) - 1)).f0 == 0) = true := by simpa using c4
     have HF : zaa (zbO l0_0 = false) := ⟨by unfold zbO; simp [HC3.out, c4]⟩
     rw [HF.out] at h
     have HH := zaa.mk (Option.some.inj h)
     clear h
     go_enter Try.func33, Try.ntmps33
     go_wp2
     go_ret
     exact ⟨by rw [← HH.out]; rfl, zaG.za9 _ _ _ _⟩
    ·have n4 : ((zae l0_0 ((l0_0.length : Int) - 1)).f0 == 0) = false := by simpa using c4
     have HC4 := zaa.mk c4
     clear c4
     by_cases c5 : (zae l0_0 0).f0 = 2
     ·have n5 : ((zae l0_0 0).f0 != 2) = false := by simpa using c5
      by_cases c6 : (zae l0_0 0).f4 = 1
      ·have n6 : ((zae l0_0 0).f4 != 1) = false := by simpa using c6
       have HEAD : zaa (zbO l0_0 = true) := ⟨by unfold zbO; simp [HC1.out, HC2.out, HC4.out, c5, c6]⟩
       clear c5 c6
       rw [if_pos HEAD.out] at h
       have HH := zaa.mk h
       clear h
       go_enter Try.func33, Try.ntmps33
       go_wp2
       clear hx0 hx4
       go_loopw [53] (fun v53 w' => ∃ i : Nat, i ≤ l0_0.length ∧ v53 = .int .i64 i ∧ zaa (nodesB l0_0 i = true) ∧ zaa (Below (zaG.W1 w (some ad) l0_0.length c0_0).heap.size (zaG.W1 w (some ad) l0_0.length c0_0) w')) (fun v53 _ => l0_0.length - (intOf v53).toNat)
       case atStart => exact ⟨0, Nat.zero_le _, rfl, ⟨rfl⟩, ⟨Below.refl _ _⟩⟩
       case round =>
        obtain ⟨i, hi, rfl, HE, HB⟩ := hrel
        have hmax := HC2.out
        have HB0 := zaa.mk (zai (zaG.za9 _ _ _ _) HB.out)
        have hct := zaG.zb6 HB.out
        by_cases hlt : i < l0_0.length
        ·obtain ⟨ad2, B1, d1, B2, d2, e2, hx0, hx1, hx2, hx3, hx4, hx5, hl1, hi1, hl2, hi2⟩ := zbn HR.out (i : Int) (by omega) (by omega)
         cases e2
         replace hx0 := (HB0.out.cell (World.block_lt_of_cell? _ _ hx0)).trans hx0
         replace hx1 := (HB0.out.cell (World.block_lt_of_cell? _ _ hx1)).trans hx1
         replace hx2 := (HB0.out.cell (World.block_lt_of_cell? _ _ hx2)).trans hx2
         replace hx3 := (HB0.out.cell (World.block_lt_of_cell? _ _ hx3)).trans hx3
         replace hx4 := (HB0.out.cell (World.block_lt_of_cell? _ _ hx4)).trans hx4
         replace hx5 := (HB0.out.cell (World.block_lt_of_cell? _ _ hx5)).trans hx5
         rw [Int.toNat_natCast] at hx0 hx1 hx2 hx3 hx4 hx5
         have hct2 := fun o => (World.cell?_alloc_lt wr o _ (World.block_lt_of_cell? _ _ hct)).trans hct
         have F := fun b e w' (hb : Below wr.heap.size wr w') => tree_node.calls (some ad) c0_0 l0_0 (zae l0_0 i).f0 B1 d1 (zae l0_0 i).f1 B2 d2 (zae l0_0 i).f2 (zae l0_0 i).f3 (zae l0_0 i).f4 (zae l0_0 i).f5 b w' (Kd.C_below HR.out (zai HB0.out hb)) HC.out (Kd.C_below hi1 (zai HB0.out hb)) hl1 (Kd.C_below hi2 (zai HB0.out hb)) hl2 ((nodeB_f l0_0 (zae l0_0 i)).trans (congrArg some e))
         have HF := zaa.mk F
         clear hi1 hl1 hi2 hl2 F
         cases hb : nodeB l0_0 (zae l0_0 i)
         ·have HN := zaa.mk hb
          have HG := zaa.mk (nodesB_false hlt hb)
          clear hb
          go_wp2_with (first | (go_at_call 59; refine (HF.out _ HN.out _ (zac (Below.refl _ _) _)).mono ?_; rintro e w1 ⟨rfl, hb⟩; have HB1 := zaa.mk (zai (zac HB0.out _) hb); clear hb))
          go_ret
          have := HH.out
          rw [HG.out] at this
          exact ⟨by rw [← Option.some.inj this]; rfl, HB1.out⟩
         ·have HN := zaa.mk hb
          have HG : zaa (nodesB l0_0 (i + 1) = true) := ⟨by rw [nodesB_succ, HE.out, hb]; rfl⟩
          clear hb
          go_wp2_with (first | (go_at_call 59; refine (HF.out _ HN.out _ (zac (Below.refl _ _) _)).mono ?_; rintro e w1 ⟨rfl, hb⟩; have HB1 := zaa.mk (zai (zac HB.out _) hb); clear hb))
          go_roundw
          case rel => exact ⟨i + 1, by omega, by go_num, HG, HB1⟩
          case measure => simp [intOf]; omega
        ·obtain rfl : i = l0_0.length := by omega
         have H1 := HH.out
         rw [if_pos HE.out] at H1
         obtain ⟨L, hL, H2⟩ := Option.bind_eq_some_iff.mp H1
         obtain ⟨R, hR, H3⟩ := Option.bind_eq_some_iff.mp H2
         clear H1 H2
         split at H3
         ·rename_i hlen
          have HLL := zaa.mk hL
          have HRR := zaa.mk hR
          have HLE := zaa.mk hlen
          have HEND := zaa.mk (Option.some.inj H3)
          clear hL hR hlen H3 HH
          go_wp2
          go_region_held3 (fun w' => w'.cell? ⟨w.heap.size, 0, none⟩ = some (.slice (some ad) l0_0.length c0_0)) (first | assumption | go_keep) (first | (go_at_call 60; refine (zaR.calls k (some ad) c0_0 l0_0 L _ (Kd.C_below HR.out (by repeat (first | exact HB0.out | apply zac | apply zab | apply zad | apply zaH))) HC.out HLL.out).mono ?_; rintro e w1 ⟨v, rfl, hq, hb⟩; obtain ⟨lA, lc, rfl⟩ := Kd.zco hq; have HQ1 := zaa.mk hq; have HBB1 := zaa.mk (zai (show Below (zaG.W1 w (some ad) l0_0.length c0_0).heap.size (zaG.W1 w (some ad) l0_0.length c0_0) _ from by repeat (first | exact HB.out | apply zac | apply zab | apply zad | apply zaH)) hb); have hct1 := zaG.zb6 HBB1.out; have HB1 := zaa.mk (zai (zaG.za9 _ _ _ _) HBB1.out); clear hq hb) | (go_at_call 61; refine (zaz.calls k (some ad) c0_0 l0_0 R _ (Kd.C_below HR.out (by repeat (first | exact HB1.out | apply zac | apply zab | apply zad | apply zaH))) HC.out HRR.out).mono ?_; rintro e w2 ⟨v, rfl, hq, hb⟩; obtain ⟨rA, rc, rfl⟩ := Kd.zco hq; have HQ2 := zaa.mk hq; have HQ3 := zaa.mk (Kd.zcz HQ1.out (zai (Below.refl _ _) hb)); have HBB2 := zaa.mk (zai HBB1.out hb); have hct2 := zaG.zb6 HBB2.out; have HB2 := zaa.mk (zai (zaG.za9 _ _ _ _) HBB2.out); clear hq hb))
          go_wp2
          try clear hct
          try clear hct1
          clear HBB1 HB1 HB HB0 HQ1
          go_loopw [69] (fun v69 w' => ∃ i : Nat, i ≤ l0_0.length ∧ v69 = .int .i64 i ∧ zaa (lastB l0_0 L R i = true) ∧ zaa (Below w2.heap.size w2 w')) (fun v69 _ => l0_0.length - (intOf v69).toNat)
          case atStart => exact ⟨0, Nat.zero_le _, rfl, ⟨rfl⟩, ⟨Below.refl _ _⟩⟩
          case round =>
           obtain ⟨i, hi, rfl, HE, HB⟩ := hrel
           have hmax := HC2.out
           have HB0 := zaa.mk (zai HB2.out HB.out)
           try clear hct2
           by_cases hlt : i < l0_0.length
           ·obtain ⟨ad2, B1, d1, B2, d2, e2, hx0, hx1, hx2, hx3, hx4, hx5, hl1, hi1, hl2, hi2⟩ := zbn HR.out (i : Int) (by omega) (by omega)
            cases e2
            replace hx0 := (HB0.out.cell (World.block_lt_of_cell? _ _ hx0)).trans hx0
            replace hx1 := (HB0.out.cell (World.block_lt_of_cell? _ _ hx1)).trans hx1
            replace hx2 := (HB0.out.cell (World.block_lt_of_cell? _ _ hx2)).trans hx2
            replace hx3 := (HB0.out.cell (World.block_lt_of_cell? _ _ hx3)).trans hx3
            replace hx4 := (HB0.out.cell (World.block_lt_of_cell? _ _ hx4)).trans hx4
            replace hx5 := (HB0.out.cell (World.block_lt_of_cell? _ _ hx5)).trans hx5
            rw [Int.toNat_natCast] at hx0 hx1 hx2 hx3 hx4 hx5
            have HL := zaa.mk (Kd.zcz HQ3.out HB.out)
            have HRb := zaa.mk (Kd.zcz HQ2.out HB.out)
            obtain ⟨lg, lcap, el, _, _, _, _⟩ := Kd.R_form HL.out (by rw [HLE.out.1]; omega)
            cases el
            obtain ⟨rg, rcap, er, _, _, _, _⟩ := Kd.R_form HRb.out (by rw [HLE.out.2]; omega)
            cases er
            have hLc := (Kd.R_cell 0 HL.out (i : Int) (by omega) (by rw [HLE.out.1]; omega)).1
            have hRc := (Kd.R_cell false HRb.out (i : Int) (by omega) (by rw [HLE.out.2]; omega)).1
            rw [Int.toNat_natCast] at hLc hRc
            have hll : (L.length : Int) = (l0_0.length : Int) := by rw [HLE.out.1]
            have hrl : (R.length : Int) = (l0_0.length : Int) := by rw [HLE.out.2]
            have hLc2 := fun o => (World.cell?_alloc_lt wr o _ (World.block_lt_of_cell? _ _ hLc)).trans hLc
            have hRc2 := fun o => (World.cell?_alloc_lt wr o _ (World.block_lt_of_cell? _ _ hRc)).trans hRc
            by_cases b1 : 0 < i
            ·have m1 : decide ((0 : Int) < (i : Int)) = true := decide_eq_true (by omega)
             have m1b : decide (0 < i) = true := decide_eq_true (by omega)
             by_cases b2 : (zae l0_0 i).f4 = rdOf 0 L i
             ·have m2 : ((zae l0_0 i).f4 != rdOf 0 L i) = false := by simpa using b2
              have B2 := zaa.mk b2
              clear b2
              by_cases b3 : (zae l0_0 i).f0 = 2
              ·have m3 : ((zae l0_0 i).f0 == 2) = true := by simpa using b3
               have B3 := zaa.mk b3
               clear b3
               by_cases b4 : 1 < (zae l0_0 i).f4
               ·have m4 : decide (1 < (zae l0_0 i).f4) = true := decide_eq_true b4
                have HG : zaa (zbl l0_0 L R i = true) := ⟨by unfold zbl; simp [b1, B3.out, b4]⟩
                go_wp2
                go_quiet (fail)
                go_wp2
                go_ret
                exact ⟨by rw [← HEND.out, zcj hlt HG.out]; rfl, by repeat (first | exact HB0.out | apply zac | apply zab | apply zad)⟩
               ·have m4 : decide (1 < (zae l0_0 i).f4) = false := decide_eq_false b4
                by_cases b5 : (zae l0_0 i).f4 = 0
                ·have m5 : ((zae l0_0 i).f4 == 0) = true := by simpa using b5
                 have m5b : ((zae l0_0 i).f4 == 1) = false := by simp [b5]
                 have B5 := zaa.mk b5
                 clear b5 b4
                 by_cases b6 : 0 < (zae l0_0 i).f2.length
                 ·have m6 : decide ((0 : Int) < ((zae l0_0 i).f2.length : Int)) = true := decide_eq_true (by omega)
                  have m6b : decide (0 < (zae l0_0 i).f2.length) = true := decide_eq_true b6
                  have HG : zaa (zbl l0_0 L R i = true) := ⟨by unfold zbl; simp [b1, B3.out, B5.out, b6]⟩
                  go_wp2
                  go_quiet (fail)
                  go_wp2
                  go_ret
                  exact ⟨by rw [← HEND.out, zcj hlt HG.out]; rfl, by repeat (first | exact HB0.out | apply zac | apply zab | apply zad)⟩
                 ·have m6 : decide ((0 : Int) < ((zae l0_0 i).f2.length : Int)) = false := decide_eq_false (by omega)
                  have m6b : decide (0 < (zae l0_0 i).f2.length) = false := decide_eq_false b6
                  have B4 : zaa (¬ (1 < (zae l0_0 i).f4)) := ⟨by rw [B5.out]; omega⟩
                  have HG : zaa (lastB l0_0 L R (i + 1) = true) := ⟨by rw [zca, HE.out]; unfold zbl; simp [B2.out.symm, B3.out, B5.out, b6, B4.out]⟩
                  go_wp2
                  go_quiet (fail)
                  go_wp2
                  go_roundw
                  case rel => exact ⟨i + 1, by omega, by go_num, HG, ⟨by repeat (first | exact HB.out | apply zac | apply zab | apply zad)⟩⟩
                  case measure => simp [intOf]; omega
                ·have m5 : ((zae l0_0 i).f4 == 0) = false := by simpa using b5
                 by_cases b7 : (zae l0_0 i).f4 = 1
                 ·have m7 : ((zae l0_0 i).f4 == 1) = true := by simpa using b7
                  have B7 := zaa.mk b7
                  clear b7 b5 b4
                  cases b8 : rdOf false R i
                  ·rw [b8] at hRc hRc2
                   have HG : zaa (zbl l0_0 L R i = true) := ⟨by unfold zbl; simp [b1, B3.out, B7.out, b8]⟩
                   go_wp2
                   go_quiet (fail)
                   go_wp2
                   go_ret
                   exact ⟨by rw [← HEND.out, zcj hlt HG.out]; rfl, by repeat (first | exact HB0.out | apply zac | apply zab | apply zad)⟩
                  ·rw [b8] at hRc hRc2
                   have HG : zaa (lastB l0_0 L R (i + 1) = true) := ⟨by rw [zca, HE.out]; unfold zbl; simp [B2.out.symm, B3.out, B7.out, b8]⟩
                   go_wp2
                   go_quiet (fail)
                   go_wp2
                   go_roundw
                   case rel => exact ⟨i + 1, by omega, by go_num, HG, ⟨by repeat (first | exact HB.out | apply zac | apply zab | apply zad)⟩⟩
                   case measure => simp [intOf]; omega
                 ·have m7 : ((zae l0_0 i).f4 == 1) = false := by simpa using b7
                  have B4 := zaa.mk b4
                  have B5 := zaa.mk b5
                  have B7 := zaa.mk b7
                  clear b4 b5 b7
                  have HG : zaa (lastB l0_0 L R (i + 1) = true) := ⟨by rw [zca, HE.out]; unfold zbl; simp [B2.out.symm, B3.out, B4.out, B5.out, B7.out]⟩
                  go_wp2
                  go_quiet (fail)
                  go_wp2
                  go_roundw
                  case rel => exact ⟨i + 1, by omega, by go_num, HG, ⟨by repeat (first | exact HB.out | apply zac | apply zab | apply zad)⟩⟩
                  case measure => simp [intOf]; omega
              ·have m3 : ((zae l0_0 i).f0 == 2) = false := by simpa using b3
               have B3 := zaa.mk b3
               clear b3
               have HG : zaa (lastB l0_0 L R (i + 1) = true) := ⟨by rw [zca, HE.out]; unfold zbl; simp [B2.out.symm, B3.out]⟩
               go_wp2
               go_quiet (fail)
               go_wp2
               go_roundw
               case rel => exact ⟨i + 1, by omega, by go_num, HG, ⟨by repeat (first | exact HB.out | apply zac | apply zab | apply zad)⟩⟩
               case measure => simp [intOf]; omega
             ·have m2 : ((zae l0_0 i).f4 != rdOf 0 L i) = true := by simpa using b2
              have HG : zaa (zbl l0_0 L R i = true) := ⟨by unfold zbl; simp [b1, b2]⟩
              go_wp2
              go_quiet (fail)
              go_wp2
              go_ret
              exact ⟨by rw [← HEND.out, zcj hlt HG.out]; rfl, by repeat (first | exact HB0.out | apply zac | apply zab | apply zad)⟩
            ·have m1 : decide ((0 : Int) < (i : Int)) = false := decide_eq_false (by omega)
             have m1b : decide (0 < i) = false := decide_eq_false (by omega)
             have HG : zaa (lastB l0_0 L R (i + 1) = true) := ⟨by rw [zca, HE.out]; unfold zbl; simp [b1]⟩
             go_wp2
             go_quiet (fail)
             go_wp2
             go_roundw
             case rel => exact ⟨i + 1, by omega, by go_num, HG, ⟨by repeat (first | exact HB.out | apply zac | apply zab | apply zad)⟩⟩
             case measure => simp [intOf]; omega
           ·obtain rfl : i = l0_0.length := by omega
            go_wp2
            go_ret
            exact ⟨by rw [← HEND.out, HE.out]; rfl, HB0.out⟩
         ·cases H3
      ·have n6 : ((zae l0_0 0).f4 != 1) = true := by simpa using c6
       have HF : zaa (zbO l0_0 = false) := ⟨by unfold zbO; simp [c6]⟩
       rw [HF.out] at h
       have HH := zaa.mk (Option.some.inj h)
       clear h
       go_enter Try.func33, Try.ntmps33
       go_wp2
       go_ret
       exact ⟨by rw [← HH.out]; rfl, zaG.za9 _ _ _ _⟩
     ·have n5 : ((zae l0_0 0).f0 != 2) = true := by simpa using c5
      have HF : zaa (zbO l0_0 = false) := ⟨by unfold zbO; simp [c5]⟩
      rw [HF.out] at h
      have HH := zaa.mk (Option.some.inj h)
      clear h
      go_enter Try.func33, Try.ntmps33
      go_wp2
      go_ret
      exact ⟨by rw [← HH.out]; rfl, zaG.za9 _ _ _ _⟩
   ·have n3 : decide ((1 : Int) < (l0_0.length : Int)) = false := decide_eq_false (by omega)
    have n3b : decide (1 < l0_0.length) = false := decide_eq_false (by omega)
    have HC3 := zaa.mk c3
    clear c3
    by_cases c5 : (zae l0_0 0).f0 = 2
    ·have n5 : ((zae l0_0 0).f0 != 2) = false := by simpa using c5
     by_cases c6 : (zae l0_0 0).f4 = 1
     ·have n6 : ((zae l0_0 0).f4 != 1) = false := by simpa using c6
      have HEAD : zaa (zbO l0_0 = true) := ⟨by unfold zbO; simp [HC1.out, HC2.out, HC3.out, c5, c6]⟩
      clear c5 c6
      rw [if_pos HEAD.out] at h
      have HH := zaa.mk h
      clear h
      go_enter Try.func33, Try.ntmps33
      go_wp2
      clear hx0 hx4
      go_loopw [53] (fun v53 w' => ∃ i : Nat, i ≤ l0_0.length ∧ v53 = .int .i64 i ∧ zaa (nodesB l0_0 i = true) ∧ zaa (Below (zaG.W1 w (some ad) l0_0.length c0_0).heap.size (zaG.W1 w (some ad) l0_0.length c0_0) w')) (fun v53 _ => l0_0.length - (intOf v53).toNat)
      case atStart => exact ⟨0, Nat.zero_le _, rfl, ⟨rfl⟩, ⟨Below.refl _ _⟩⟩
      case round =>
       obtain ⟨i, hi, rfl, HE, HB⟩ := hrel
       have hmax := HC2.out
       have HB0 := zaa.mk (zai (zaG.za9 _ _ _ _) HB.out)
       have hct := zaG.zb6 HB.out
       by_cases hlt : i < l0_0.length
       ·obtain ⟨ad2, B1, d1, B2, d2, e2, hx0, hx1, hx2, hx3, hx4, hx5, hl1, hi1, hl2, hi2⟩ := zbn HR.out (i : Int) (by omega) (by omega)
        cases e2
        replace hx0 := (HB0.out.cell (World.block_lt_of_cell? _ _ hx0)).trans hx0
        replace hx1 := (HB0.out.cell (World.block_lt_of_cell? _ _ hx1)).trans hx1
        replace hx2 := (HB0.out.cell (World.block_lt_of_cell? _ _ hx2)).trans hx2
        replace hx3 := (HB0.out.cell (World.block_lt_of_cell? _ _ hx3)).trans hx3
        replace hx4 := (HB0.out.cell (World.block_lt_of_cell? _ _ hx4)).trans hx4
        replace hx5 := (HB0.out.cell (World.block_lt_of_cell? _ _ hx5)).trans hx5
        rw [Int.toNat_natCast] at hx0 hx1 hx2 hx3 hx4 hx5
        have hct2 := fun o => (World.cell?_alloc_lt wr o _ (World.block_lt_of_cell? _ _ hct)).trans hct
        have F := fun b e w' (hb : Below wr.heap.size wr w') => tree_node.calls (some ad) c0_0 l0_0 (zae l0_0 i).f0 B1 d1 (zae l0_0 i).f1 B2 d2 (zae l0_0 i).f2 (zae l0_0 i).f3 (zae l0_0 i).f4 (zae l0_0 i).f5 b w' (Kd.C_below HR.out (zai HB0.out hb)) HC.out (Kd.C_below hi1 (zai HB0.out hb)) hl1 (Kd.C_below hi2 (zai HB0.out hb)) hl2 ((nodeB_f l0_0 (zae l0_0 i)).trans (congrArg some e))
        have HF := zaa.mk F
        clear hi1 hl1 hi2 hl2 F
        cases hb : nodeB l0_0 (zae l0_0 i)
        ·have HN := zaa.mk hb
         have HG := zaa.mk (nodesB_false hlt hb)
         clear hb
         go_wp2_with (first | (go_at_call 59; refine (HF.out _ HN.out _ (zac (Below.refl _ _) _)).mono ?_; rintro e w1 ⟨rfl, hb⟩; have HB1 := zaa.mk (zai (zac HB0.out _) hb); clear hb))
         go_ret
         have := HH.out
         rw [HG.out] at this
         exact ⟨by rw [← Option.some.inj this]; rfl, HB1.out⟩
        ·have HN := zaa.mk hb
         have HG : zaa (nodesB l0_0 (i + 1) = true) := ⟨by rw [nodesB_succ, HE.out, hb]; rfl⟩
         clear hb
         go_wp2_with (first | (go_at_call 59; refine (HF.out _ HN.out _ (zac (Below.refl _ _) _)).mono ?_; rintro e w1 ⟨rfl, hb⟩; have HB1 := zaa.mk (zai (zac HB.out _) hb); clear hb))
         go_roundw
         case rel => exact ⟨i + 1, by omega, by go_num, HG, HB1⟩
         case measure => simp [intOf]; omega
       ·obtain rfl : i = l0_0.length := by omega
        have H1 := HH.out
        rw [if_pos HE.out] at H1
        obtain ⟨L, hL, H2⟩ := Option.bind_eq_some_iff.mp H1
        obtain ⟨R, hR, H3⟩ := Option.bind_eq_some_iff.mp H2
        clear H1 H2
        split at H3
        ·rename_i hlen
         have HLL := zaa.mk hL
         have HRR := zaa.mk hR
         have HLE := zaa.mk hlen
         have HEND := zaa.mk (Option.some.inj H3)
         clear hL hR hlen H3 HH
         go_wp2
         go_region_held3 (fun w' => w'.cell? ⟨w.heap.size, 0, none⟩ = some (.slice (some ad) l0_0.length c0_0)) (first | assumption | go_keep) (first | (go_at_call 60; refine (zaR.calls k (some ad) c0_0 l0_0 L _ (Kd.C_below HR.out (by repeat (first | exact HB0.out | apply zac | apply zab | apply zad | apply zaH))) HC.out HLL.out).mono ?_; rintro e w1 ⟨v, rfl, hq, hb⟩; obtain ⟨lA, lc, rfl⟩ := Kd.zco hq; have HQ1 := zaa.mk hq; have HBB1 := zaa.mk (zai (show Below (zaG.W1 w (some ad) l0_0.length c0_0).heap.size (zaG.W1 w (some ad) l0_0.length c0_0) _ from by repeat (first | exact HB.out | apply zac | apply zab | apply zad | apply zaH)) hb); have hct1 := zaG.zb6 HBB1.out; have HB1 := zaa.mk (zai (zaG.za9 _ _ _ _) HBB1.out); clear hq hb) | (go_at_call 61; refine (zaz.calls k (some ad) c0_0 l0_0 R _ (Kd.C_below HR.out (by repeat (first | exact HB1.out | apply zac | apply zab | apply zad | apply zaH))) HC.out HRR.out).mono ?_; rintro e w2 ⟨v, rfl, hq, hb⟩; obtain ⟨rA, rc, rfl⟩ := Kd.zco hq; have HQ2 := zaa.mk hq; have HQ3 := zaa.mk (Kd.zcz HQ1.out (zai (Below.refl _ _) hb)); have HBB2 := zaa.mk (zai HBB1.out hb); have hct2 := zaG.zb6 HBB2.out; have HB2 := zaa.mk (zai (zaG.za9 _ _ _ _) HBB2.out); clear hq hb))
         go_wp2
         try clear hct
         try clear hct1
         clear HBB1 HB1 HB HB0 HQ1
         go_loopw [69] (fun v69 w' => ∃ i : Nat, i ≤ l0_0.length ∧ v69 = .int .i64 i ∧ zaa (lastB l0_0 L R i = true) ∧ zaa (Below w2.heap.size w2 w')) (fun v69 _ => l0_0.length - (intOf v69).toNat)
         case atStart => exact ⟨0, Nat.zero_le _, rfl, ⟨rfl⟩, ⟨Below.refl _ _⟩⟩
         case round =>
          obtain ⟨i, hi, rfl, HE, HB⟩ := hrel
          have hmax := HC2.out
          have HB0 := zaa.mk (zai HB2.out HB.out)
          try clear hct2
          by_cases hlt : i < l0_0.length
          ·obtain ⟨ad2, B1, d1, B2, d2, e2, hx0, hx1, hx2, hx3, hx4, hx5, hl1, hi1, hl2, hi2⟩ := zbn HR.out (i : Int) (by omega) (by omega)
           cases e2
           replace hx0 := (HB0.out.cell (World.block_lt_of_cell? _ _ hx0)).trans hx0
           replace hx1 := (HB0.out.cell (World.block_lt_of_cell? _ _ hx1)).trans hx1
           replace hx2 := (HB0.out.cell (World.block_lt_of_cell? _ _ hx2)).trans hx2
           replace hx3 := (HB0.out.cell (World.block_lt_of_cell? _ _ hx3)).trans hx3
           replace hx4 := (HB0.out.cell (World.block_lt_of_cell? _ _ hx4)).trans hx4
           replace hx5 := (HB0.out.cell (World.block_lt_of_cell? _ _ hx5)).trans hx5
           rw [Int.toNat_natCast] at hx0 hx1 hx2 hx3 hx4 hx5
           have HL := zaa.mk (Kd.zcz HQ3.out HB.out)
           have HRb := zaa.mk (Kd.zcz HQ2.out HB.out)
           obtain ⟨lg, lcap, el, _, _, _, _⟩ := Kd.R_form HL.out (by rw [HLE.out.1]; omega)
           cases el
           obtain ⟨rg, rcap, er, _, _, _, _⟩ := Kd.R_form HRb.out (by rw [HLE.out.2]; omega)
           cases er
           have hLc := (Kd.R_cell 0 HL.out (i : Int) (by omega) (by rw [HLE.out.1]; omega)).1
           have hRc := (Kd.R_cell false HRb.out (i : Int) (by omega) (by rw [HLE.out.2]; omega)).1
           rw [Int.toNat_natCast] at hLc hRc
           have hll : (L.length : Int) = (l0_0.length : Int) := by rw [HLE.out.1]
           have hrl : (R.length : Int) = (l0_0.length : Int) := by rw [HLE.out.2]
           have hLc2 := fun o => (World.cell?_alloc_lt wr o _ (World.block_lt_of_cell? _ _ hLc)).trans hLc
           have hRc2 := fun o => (World.cell?_alloc_lt wr o _ (World.block_lt_of_cell? _ _ hRc)).trans hRc
           by_cases b1 : 0 < i
           ·have m1 : decide ((0 : Int) < (i : Int)) = true := decide_eq_true (by omega)
            have m1b : decide (0 < i) = true := decide_eq_true (by omega)
            by_cases b2 : (zae l0_0 i).f4 = rdOf 0 L i
            ·have m2 : ((zae l0_0 i).f4 != rdOf 0 L i) = false := by simpa using b2
             have B2 := zaa.mk b2
             clear b2
             by_cases b3 : (zae l0_0 i).f0 = 2
             ·have m3 : ((zae l0_0 i).f0 == 2) = true := by simpa using b3
              have B3 := zaa.mk b3
              clear b3
              by_cases b4 : 1 < (zae l0_0 i).f4
              ·have m4 : decide (1 < (zae l0_0 i).f4) = true := decide_eq_true b4
               have HG : zaa (zbl l0_0 L R i = true) := ⟨by unfold zbl; simp [b1, B3.out, b4]⟩
               go_wp2
               go_quiet (fail)
               go_wp2
               go_ret
               exact ⟨by rw [← HEND.out, zcj hlt HG.out]; rfl, by repeat (first | exact HB0.out | apply zac | apply zab | apply zad)⟩
              ·have m4 : decide (1 < (zae l0_0 i).f4) = false := decide_eq_false b4
               by_cases b5 : (zae l0_0 i).f4 = 0
               ·have m5 : ((zae l0_0 i).f4 == 0) = true := by simpa using b5
                have m5b : ((zae l0_0 i).f4 == 1) = false := by simp [b5]
                have B5 := zaa.mk b5
                clear b5 b4
                by_cases b6 : 0 < (zae l0_0 i).f2.length
                ·have m6 : decide ((0 : Int) < ((zae l0_0 i).f2.length : Int)) = true := decide_eq_true (by omega)
                 have m6b : decide (0 < (zae l0_0 i).f2.length) = true := decide_eq_true b6
                 have HG : zaa (zbl l0_0 L R i = true) := ⟨by unfold zbl; simp [b1, B3.out, B5.out, b6]⟩
                 go_wp2
                 go_quiet (fail)
                 go_wp2
                 go_ret
                 exact ⟨by rw [← HEND.out, zcj hlt HG.out]; rfl, by repeat (first | exact HB0.out | apply zac | apply zab | apply zad)⟩
                ·have m6 : decide ((0 : Int) < ((zae l0_0 i).f2.length : Int)) = false := decide_eq_false (by omega)
                 have m6b : decide (0 < (zae l0_0 i).f2.length) = false := decide_eq_false b6
                 have B4 : zaa (¬ (1 < (zae l0_0 i).f4)) := ⟨by rw [B5.out]; omega⟩
                 have HG : zaa (lastB l0_0 L R (i + 1) = true) := ⟨by rw [zca, HE.out]; unfold zbl; simp [B2.out.symm, B3.out, B5.out, b6, B4.out]⟩
                 go_wp2
                 go_quiet (fail)
                 go_wp2
                 go_roundw
                 case rel => exact ⟨i + 1, by omega, by go_num, HG, ⟨by repeat (first | exact HB.out | apply zac | apply zab | apply zad)⟩⟩
                 case measure => simp [intOf]; omega
               ·have m5 : ((zae l0_0 i).f4 == 0) = false := by simpa using b5
                by_cases b7 : (zae l0_0 i).f4 = 1
                ·have m7 : ((zae l0_0 i).f4 == 1) = true := by simpa using b7
                 have B7 := zaa.mk b7
                 clear b7 b5 b4
                 cases b8 : rdOf false R i
                 ·rw [b8] at hRc hRc2
                  have HG : zaa (zbl l0_0 L R i = true) := ⟨by unfold zbl; simp [b1, B3.out, B7.out, b8]⟩
                  go_wp2
                  go_quiet (fail)
                  go_wp2
                  go_ret
                  exact ⟨by rw [← HEND.out, zcj hlt HG.out]; rfl, by repeat (first | exact HB0.out | apply zac | apply zab | apply zad)⟩
                 ·rw [b8] at hRc hRc2
                  have HG : zaa (lastB l0_0 L R (i + 1) = true) := ⟨by rw [zca, HE.out]; unfold zbl; simp [B2.out.symm, B3.out, B7.out, b8]⟩
                  go_wp2
                  go_quiet (fail)
                  go_wp2
                  go_roundw
                  case rel => exact ⟨i + 1, by omega, by go_num, HG, ⟨by repeat (first | exact HB.out | apply zac | apply zab | apply zad)⟩⟩
                  case measure => simp [intOf]; omega
                ·have m7 : ((zae l0_0 i).f4 == 1) = false := by simpa using b7
                 have B4 := zaa.mk b4
                 have B5 := zaa.mk b5
                 have B7 := zaa.mk b7
                 clear b4 b5 b7
                 have HG : zaa (lastB l0_0 L R (i + 1) = true) := ⟨by rw [zca, HE.out]; unfold zbl; simp [B2.out.symm, B3.out, B4.out, B5.out, B7.out]⟩
                 go_wp2
                 go_quiet (fail)
                 go_wp2
                 go_roundw
                 case rel => exact ⟨i + 1, by omega, by go_num, HG, ⟨by repeat (first | exact HB.out | apply zac | apply zab | apply zad)⟩⟩
                 case measure => simp [intOf]; omega
             ·have m3 : ((zae l0_0 i).f0 == 2) = false := by simpa using b3
              have B3 := zaa.mk b3
              clear b3
              have HG : zaa (lastB l0_0 L R (i + 1) = true) := ⟨by rw [zca, HE.out]; unfold zbl; simp [B2.out.symm, B3.out]⟩
              go_wp2
              go_quiet (fail)
              go_wp2
              go_roundw
              case rel => exact ⟨i + 1, by omega, by go_num, HG, ⟨by repeat (first | exact HB.out | apply zac | apply zab | apply zad)⟩⟩
              case measure => simp [intOf]; omega
            ·have m2 : ((zae l0_0 i).f4 != rdOf 0 L i) = true := by simpa using b2
             have HG : zaa (zbl l0_0 L R i = true) := ⟨by unfold zbl; simp [b1, b2]⟩
             go_wp2
             go_quiet (fail)
             go_wp2
             go_ret
             exact ⟨by rw [← HEND.out, zcj hlt HG.out]; rfl, by repeat (first | exact HB0.out | apply zac | apply zab | apply zad)⟩
           ·have m1 : decide ((0 : Int) < (i : Int)) = false := decide_eq_false (by omega)
            have m1b : decide (0 < i) = false := decide_eq_false (by omega)
            have HG : zaa (lastB l0_0 L R (i + 1) = true) := ⟨by rw [zca, HE.out]; unfold zbl; simp [b1]⟩
            go_wp2
            go_quiet (fail)
            go_wp2
            go_roundw
            case rel => exact ⟨i + 1, by omega, by go_num, HG, ⟨by repeat (first | exact HB.out | apply zac | apply zab | apply zad)⟩⟩
            case measure => simp [intOf]; omega
          ·obtain rfl : i = l0_0.length := by omega
           go_wp2
           go_ret
           exact ⟨by rw [← HEND.out, HE.out]; rfl, HB0.out⟩
        ·cases H3
     ·have n6 : ((zae l0_0 0).f4 != 1) = true := by simpa using c6
      have HF : zaa (zbO l0_0 = false) := ⟨by unfold zbO; simp [c6]⟩
      rw [HF.out] at h
      have HH := zaa.mk (Option.some.inj h)
      clear h
      go_enter Try.func33, Try.ntmps33
      go_wp2
      go_ret
      exact ⟨by rw [← HH.out]; rfl, zaG.za9 _ _ _ _⟩
    ·have n5 : ((zae l0_0 0).f0 != 2) = true := by simpa using c5
     have HF : zaa (zbO l0_0 = false) := ⟨by unfold zbO; simp [c5]⟩
     rw [HF.out] at h
     have HH := zaa.mk (Option.some.inj h)
     clear h
     go_enter Try.func33, Try.ntmps33
     go_wp2
     go_ret
     exact ⟨by rw [← HH.out]; rfl, zaG.za9 _ _ _ _⟩
  ·have n2 : decide ((64 : Int) < (l0_0.length : Int)) = true := decide_eq_true (by omega)
   have n2b : decide (64 < l0_0.length) = true := decide_eq_true (by omega)
   have HF : zaa (zbO l0_0 = false) := ⟨by unfold zbO; simp [c2]⟩
   rw [HF.out] at h
   have HH := zaa.mk (Option.some.inj h)
   clear h
   go_enter Try.func33, Try.ntmps33
   go_wp2
   go_ret
   exact ⟨by rw [← HH.out]; rfl, zaG.za9 _ _ _ _⟩
 ·have n1 : decide ((l0_0.length : Int) < 1) = true := decide_eq_true (by omega)
  have n1b : decide (l0_0.length < 1) = true := decide_eq_true (by omega)
  have HF : zaa (zbO l0_0 = false) := ⟨by unfold zbO; simp [c1]⟩
  rw [HF.out] at h
  have HH := zaa.mk (Option.some.inj h)
  clear h
  go_enter Try.func33, Try.ntmps33
  go_wp2
  go_ret
  exact ⟨by rw [← HH.out]; rfl, zaG.za9 _ _ _ _⟩
end Go.Proofs.Ytjghephnjkffcaa.PCk
