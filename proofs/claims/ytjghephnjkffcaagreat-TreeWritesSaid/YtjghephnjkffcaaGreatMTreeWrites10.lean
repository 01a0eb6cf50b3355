/- Parts of one proof, merged by a program of this repo: walks over the given program and plain facts. -/
import Derived.Test.YtjghephnjkffcaaGreatMTreeWrites4
import Derived.Test.YtjghephnjkffcaaGreatMTreeWrites5
import Derived.Deep.DrawnRows
import Derived.Deep.RegionHeld3
import Derived.Test.YtjghephnjkffcaaGreatMTreeWrites2
import Derived.Test.YtjghephnjkffcaaGreatMTreeWrites8
import Derived.Test.YtjghephnjkffcaaGreatMTreeWrites9
import Derived.Test.YtjghephnjkffcaaGreatMTreeWrites7
namespace Go.Proofs.YtjghephnjkffcaaGreat.PAll
open Go.RowKit Go.Proofs.YtjghephnjkffcaaGreatW.PrintWords Go.Proofs.YtjghephnjkffcaaGreatW.PrintLast Go.Proofs.YtjghephnjkffcaaGreatW.PrintMore
attribute [local go_sem] zb2 zb0 zcn zcm zbF zbE zb1 zbZ
set_option linter.unusedVariables false
set_option linter.unusedSimpArgs false
def zbi.l0 : Nat → List (S40) → Int → Int → List (S40) → Option (Int)
 | 0, _, _, _, _ => none
 | k + 1, x6, x7, x8, x340000 => if x8 < x7 then (if 0 ≤ x8 then (if x8 < (x6.length : Int) then (if ((zah x6 x8).f0) = 0 then (some x8) else (zbi.l0 k x6 x7 (wrap64 (x8 + 1)) x340000)) else (none)) else (none)) else (some (x340000.length : Int))
def zbi.f (k : Nat) (l0_0 : List (S40)) : Option (Int) := zbi.l0 k l0_0 (l0_0.length : Int) 0 l0_0
theorem zbi.mono_l : ∀ k, (∀ y0 y1 y2 y3, LeO (zbi.l0 k y0 y1 y2 y3) (zbi.l0 (k + 1) y0 y1 y2 y3))
 | 0 => fun _ _ _ _ r h => by simp [zbi.l0] at h
 | k + 1 => by
  have ih0 := zbi.mono_l k
  ·intro y0 y1 y2 y3
   unfold zbi.l0
   repeat' first
   | (with_reducible exact ih0 _ _ _ _)
   | (with_reducible exact LeO.refl _)
   | (with_reducible exact LeO.none _)
   | (with_reducible refine LeO.ite ?_ ?_)
   | (with_reducible refine LeO.bind ?_ (fun _ => ?_))
   | exact ih0 _ _ _ _
   | exact LeO.none _
   | refine LeO.ite ?_ ?_
   | refine LeO.bind ?_ (fun _ => ?_)
theorem zbi.mono : ∀ a0 k, LeO (zbi.f k a0) (zbi.f (k + 1) a0) := by
 intro a0 k
 have ih0 := zbi.mono_l k
 unfold zbi.f
 repeat' first
   | (with_reducible exact ih0 _ _ _ _)
   | (with_reducible exact LeO.refl _)
   | (with_reducible exact LeO.none _)
   | (with_reducible refine LeO.ite ?_ ?_)
   | (with_reducible refine LeO.bind ?_ (fun _ => ?_))
   | exact ih0 _ _ _ _
   | exact LeO.none _
   | refine LeO.ite ?_ ?_
   | refine LeO.bind ?_ (fun _ => ?_)
set_option maxHeartbeats 8000000 in
set_option maxRecDepth 100000 in
theorem zbi.calls (k : Nat) (A0_0 : Option Addr) (c0_0 : Nat) (l0_0 : List (S40)) (r : Int) (w : World) (hr0_0 : Kd.C k40 w A0_0 l0_0.length l0_0) (hc0_0 : l0_0.length ≤ c0_0) (h : zbi.f k l0_0 = some r) :
  Calls Tryz.prog 88 #[.agg #[.slice A0_0 l0_0.length c0_0]] w fun e w' => e = .returned (.int .i64 r) ∧ Below w.heap.size w w' := by
 have hu24 := Tryz.underlying24
 have hu40 := Tryz.underlying40
 have HR0_0 := zaa.mk hr0_0
 have HC0_0 := zaa.mk hc0_0
 clear hr0_0 hc0_0
 have HB := zaa.mk (Below.refl w.heap.size w)
 have H : (zbi.l0 k l0_0 (l0_0.length : Int) 0 l0_0) = some r := h
 clear h
 have H' := zaa.mk H
 clear H
 go_enter Tryz.func88, Tryz.ntmps88
 go_wp2_with (first | ((with_reducible refine zaS (N := 1) rfl ?_); refine zaG ?hg (N := 1) ?hd (cs := #[.slice A0_0 l0_0.length c0_0]) (t := 24) ?hr ?_; (case hd => rfl); (case hg => rfl); (case hr => first | (go_simp; done) | (go_simp; rfl)); intro gb339 hg w2 hbox hb; have n0_ := zaa.mk (zam (by repeat (first | (with_reducible first | exact HB.out | apply zad | apply zab | apply zae) | exact HB.out)) hb); have n1_ := zaa.mk (hbox); have n2_ := zaa.mk ((by rw [hg]; exact (zar (by repeat (first | (with_reducible first | exact HB.out | apply zad | apply zab | apply zae) | exact HB.out))) : w.heap.size ≤ gb339)); have n3_ := zaa.mk ((by rw [hg]; exact (zar (by repeat (first | (with_reducible first | exact HB.out | apply zad | apply zab | apply zae) | exact HB.out))) : w.heap.size ≤ gb339)); clear HB; have HB := n0_; have BK339 := n1_; have GW339 := n2_; have GE339 := n3_; clear n0_ n1_ n2_ n3_; clear hb hbox hg; have hcz3_0 : w2.cell? ⟨gb339, 0, none⟩ = some (.slice A0_0 l0_0.length c0_0) := (zac BK339.out 0).trans rfl; have hfz3_0 := zaf BK339.out 0))
 go_loopg [8] k (fun kq v8 w' => ∃ (x8_1 : Int), v8 = .int .i64 x8_1 ∧ zaa (zbi.l0 kq l0_0 (l0_0.length : Int) x8_1 l0_0 = some r) ∧ zaa (kq ≤ k) ∧ zaa (w'.heap[gb339]? = some (.cells #[(.slice A0_0 l0_0.length c0_0)] 24 (0, 0))) ∧ zaa (Below w.heap.size w w'))
 case atStart => exact ⟨(0), (by first | rfl | (simp; done) | (simp [*]; done)), H', ⟨Nat.le_refl _⟩, ⟨by (with_reducible repeat (first | refine zaj ?_ _ | refine zak ?_ | refine zai ?_ _)); exact BK339.out⟩, ⟨by repeat (first | (with_reducible first | exact HB.out | apply zad | apply zab | apply zae | refine zal ?_ GE339.out) | exact HB.out)⟩⟩
 case round =>
  clear H'
  try clear hcz3_0
  try clear hfz3_0
  obtain ⟨x8_1, rfl, HA, HK1, BK339, HB⟩ := hrel
  cases gk with
  | zero => exact absurd HA.out (by simp [zbi.l0])
  | succ k1 =>
   have H := HA.out
   clear HA
   simp only [zbi.l0] at H
   by_cases c4 : x8_1 < (l0_0.length : Int)
   ·rw [if_pos c4] at H
    have c4b0 : decide (x8_1 < (l0_0.length : Int)) = true := decide_eq_true c4
    clear c4
    by_cases c5 : 0 ≤ x8_1
    ·rw [if_pos c5] at H
     have c5b0 : decide (0 ≤ x8_1) = true := decide_eq_true c5
     clear c5
     by_cases c6 : x8_1 < (l0_0.length : Int)
     ·rw [if_pos c6] at H
      have c6b0 : decide (x8_1 < (l0_0.length : Int)) = true := decide_eq_true c6
      clear c6
      by_cases c7 : ((zah l0_0 x8_1).f0) = 0
      ·rw [if_pos c7] at H
       have c7b0 : (((zah l0_0 x8_1).f0) == 0) = true := beq_iff_eq.mpr c7
       have c7b1 : (((zah l0_0 x8_1).f0) != 0) = false := bne_eq_false_iff_eq.mpr c7
       clear c7
       obtain rfl := Option.some.inj H
       have p340 : 0 ≤ (x8_1 : Int) := of_decide_eq_true (by first | (with_reducible assumption) | assumption)
       have q340 : x8_1 < (l0_0.length : Int) := of_decide_eq_true (by first | (with_reducible assumption) | assumption)
       obtain ⟨ad340, A340_1, c340_1, A340_2, c340_2, e340, hx340_0, hx340_1, hx340_2, hx340_3, hx340_4, hx340_5, hl340_1, hi340_1, hl340_2, hi340_2⟩ := zbc HR0_0.out x8_1 p340 q340
       cases e340
       replace hx340_0 := (HB.out.cell (World.block_lt_of_cell? w _ hx340_0)).trans hx340_0
       replace hx340_1 := (HB.out.cell (World.block_lt_of_cell? w _ hx340_1)).trans hx340_1
       replace hx340_2 := (HB.out.cell (World.block_lt_of_cell? w _ hx340_2)).trans hx340_2
       replace hx340_3 := (HB.out.cell (World.block_lt_of_cell? w _ hx340_3)).trans hx340_3
       replace hx340_4 := (HB.out.cell (World.block_lt_of_cell? w _ hx340_4)).trans hx340_4
       replace hx340_5 := (HB.out.cell (World.block_lt_of_cell? w _ hx340_5)).trans hx340_5
       have HR340_1 := zaa.mk hi340_1
       have HC340_1 := zaa.mk hl340_1
       clear hi340_1 hl340_1
       have HR340_2 := zaa.mk hi340_2
       have HC340_2 := zaa.mk hl340_2
       clear hi340_2 hl340_2
       replace p340 := eq_true p340
       replace q340 := eq_true q340
       go_wp2_with (first | ((with_reducible refine zaS (N := 4) rfl ?_); refine zaG ?hg (N := 4) ?hd (cs := #[.int .i64 0, .slice none 0 0, .slice none 0 0, .string (⟨#[]⟩ : ByteArray), .int .i64 0, .int .i64 0]) (t := 40) ?hr ?_; (case hd => rfl); (case hg => rfl); (case hr => first | (go_simp; done) | (go_simp; rfl)); intro gb341 hg w8 hbox hb; have n0_ := zaa.mk (zan (g := gb339) (o := .cells #[.slice (some ad340) l0_0.length c0_0] 24 (0, 0)) (by (with_reducible repeat (first | refine zaj ?_ _ | refine zak ?_ | refine zai ?_ _)); exact BK339.out) hb); have n1_ := zaa.mk (zam (by repeat (first | (with_reducible first | exact HB.out | apply zad | apply zab | apply zae | refine zal ?_ GE339.out) | exact HB.out)) hb); have n2_ := zaa.mk (hbox); have n3_ := zaa.mk ((by rw [hg]; exact (zar (by repeat (first | (with_reducible first | exact HB.out | apply zad | apply zab | apply zae | refine zal ?_ GE339.out) | exact HB.out))) : w.heap.size ≤ gb341)); have n4_ := zaa.mk ((by rw [hg]; exact (zar (by repeat (first | (with_reducible first | exact HB.out | apply zad | apply zab | apply zae | refine zal ?_ GE339.out) | exact HB.out))) : w.heap.size ≤ gb341)); have n5_ := zaa.mk ((by rw [hg]; exact Nat.ne_of_lt (zaO (g := gb339) (o := .cells #[.slice (some ad340) l0_0.length c0_0] 24 (0, 0)) (by (with_reducible repeat (first | refine zaj ?_ _ | refine zak ?_ | refine zai ?_ _)); exact BK339.out)) : gb339 ≠ gb341)); have n6_ := zaa.mk ((by rw [hg]; exact Nat.ne_of_gt (zaO (g := gb339) (o := .cells #[.slice (some ad340) l0_0.length c0_0] 24 (0, 0)) (by (with_reducible repeat (first | refine zaj ?_ _ | refine zak ?_ | refine zai ?_ _)); exact BK339.out)) : gb341 ≠ gb339)); clear BK339; clear HB; have BK339 := n0_; have HB := n1_; have BK341 := n2_; have GW341 := n3_; have GE341 := n4_; have NB339_341 := n5_; have NB341_339 := n6_; clear n0_ n1_ n2_ n3_ n4_ n5_ n6_; clear hb hbox hg; have hnb9 := NB341_339.out; have hnc9 := NB339_341.out; have hcz10_0 : w8.cell? ⟨gb341, 0, none⟩ = some (.int .i64 0) := (zac BK341.out 0).trans rfl; have hcz10_1 : w8.cell? ⟨gb341, 1, none⟩ = some (.slice none 0 0) := (zac BK341.out 1).trans rfl; have hcz10_2 : w8.cell? ⟨gb341, 2, none⟩ = some (.slice none 0 0) := (zac BK341.out 2).trans rfl; have hcz10_3 : w8.cell? ⟨gb341, 3, none⟩ = some (.string (⟨#[]⟩ : ByteArray)) := (zac BK341.out 3).trans rfl; have hcz10_4 : w8.cell? ⟨gb341, 4, none⟩ = some (.int .i64 0) := (zac BK341.out 4).trans rfl; have hcz10_5 : w8.cell? ⟨gb341, 5, none⟩ = some (.int .i64 0) := (zac BK341.out 5).trans rfl; have hfz10_0 := zaf BK341.out 0; have hfz10_1 := zaf BK341.out 1; have hfz10_2 := zaf BK341.out 2; have hfz10_3 := zaf BK341.out 3; have hfz10_4 := zaf BK341.out 4; have hfz10_5 := zaf BK341.out 5))
       go_ret
       exact ⟨by first | rfl | (simp [zaw, zav] <;> rfl) | (simp [*, zaw, zav] <;> rfl), by repeat (first | (with_reducible first | exact HB.out | apply zad | apply zab | apply zae | refine zal ?_ GE339.out | refine zal ?_ GE341.out) | exact HB.out)⟩
      ·rw [if_neg c7] at H
       have c7b0 : (((zah l0_0 x8_1).f0) == 0) = false := beq_eq_false_iff_ne.mpr c7
       have c7b1 : (((zah l0_0 x8_1).f0) != 0) = true := bne_iff_ne.mpr c7
       have H' := zaa.mk H
       clear H
       have p340 : 0 ≤ (x8_1 : Int) := of_decide_eq_true (by first | (with_reducible assumption) | assumption)
       have q340 : x8_1 < (l0_0.length : Int) := of_decide_eq_true (by first | (with_reducible assumption) | assumption)
       obtain ⟨ad340, A340_1, c340_1, A340_2, c340_2, e340, hx340_0, hx340_1, hx340_2, hx340_3, hx340_4, hx340_5, hl340_1, hi340_1, hl340_2, hi340_2⟩ := zbc HR0_0.out x8_1 p340 q340
       cases e340
       replace hx340_0 := (HB.out.cell (World.block_lt_of_cell? w _ hx340_0)).trans hx340_0
       replace hx340_1 := (HB.out.cell (World.block_lt_of_cell? w _ hx340_1)).trans hx340_1
       replace hx340_2 := (HB.out.cell (World.block_lt_of_cell? w _ hx340_2)).trans hx340_2
       replace hx340_3 := (HB.out.cell (World.block_lt_of_cell? w _ hx340_3)).trans hx340_3
       replace hx340_4 := (HB.out.cell (World.block_lt_of_cell? w _ hx340_4)).trans hx340_4
       replace hx340_5 := (HB.out.cell (World.block_lt_of_cell? w _ hx340_5)).trans hx340_5
       have HR340_1 := zaa.mk hi340_1
       have HC340_1 := zaa.mk hl340_1
       clear hi340_1 hl340_1
       have HR340_2 := zaa.mk hi340_2
       have HC340_2 := zaa.mk hl340_2
       clear hi340_2 hl340_2
       replace p340 := eq_true p340
       replace q340 := eq_true q340
       go_wp2_with (first | ((with_reducible refine zaS (N := 4) rfl ?_); refine zaG ?hg (N := 4) ?hd (cs := #[.int .i64 0, .slice none 0 0, .slice none 0 0, .string (⟨#[]⟩ : ByteArray), .int .i64 0, .int .i64 0]) (t := 40) ?hr ?_; (case hd => rfl); (case hg => rfl); (case hr => first | (go_simp; done) | (go_simp; rfl)); intro gb341 hg w11 hbox hb; have n0_ := zaa.mk (zan (g := gb339) (o := .cells #[.slice (some ad340) l0_0.length c0_0] 24 (0, 0)) (by (with_reducible repeat (first | refine zaj ?_ _ | refine zak ?_ | refine zai ?_ _)); exact BK339.out) hb); have n1_ := zaa.mk (zam (by repeat (first | (with_reducible first | exact HB.out | apply zad | apply zab | apply zae | refine zal ?_ GE339.out) | exact HB.out)) hb); have n2_ := zaa.mk (hbox); have n3_ := zaa.mk ((by rw [hg]; exact (zar (by repeat (first | (with_reducible first | exact HB.out | apply zad | apply zab | apply zae | refine zal ?_ GE339.out) | exact HB.out))) : w.heap.size ≤ gb341)); have n4_ := zaa.mk ((by rw [hg]; exact (zar (by repeat (first | (with_reducible first | exact HB.out | apply zad | apply zab | apply zae | refine zal ?_ GE339.out) | exact HB.out))) : w.heap.size ≤ gb341)); have n5_ := zaa.mk ((by rw [hg]; exact Nat.ne_of_lt (zaO (g := gb339) (o := .cells #[.slice (some ad340) l0_0.length c0_0] 24 (0, 0)) (by (with_reducible repeat (first | refine zaj ?_ _ | refine zak ?_ | refine zai ?_ _)); exact BK339.out)) : gb339 ≠ gb341)); have n6_ := zaa.mk ((by rw [hg]; exact Nat.ne_of_gt (zaO (g := gb339) (o := .cells #[.slice (some ad340) l0_0.length c0_0] 24 (0, 0)) (by (with_reducible repeat (first | refine zaj ?_ _ | refine zak ?_ | refine zai ?_ _)); exact BK339.out)) : gb341 ≠ gb339)); clear BK339; clear HB; have BK339 := n0_; have HB := n1_; have BK341 := n2_; have GW341 := n3_; have GE341 := n4_; have NB339_341 := n5_; have NB341_339 := n6_; clear n0_ n1_ n2_ n3_ n4_ n5_ n6_; clear hb hbox hg; have hnb12 := NB341_339.out; have hnc12 := NB339_341.out; have hcz13_0 : w11.cell? ⟨gb341, 0, none⟩ = some (.int .i64 0) := (zac BK341.out 0).trans rfl; have hcz13_1 : w11.cell? ⟨gb341, 1, none⟩ = some (.slice none 0 0) := (zac BK341.out 1).trans rfl; have hcz13_2 : w11.cell? ⟨gb341, 2, none⟩ = some (.slice none 0 0) := (zac BK341.out 2).trans rfl; have hcz13_3 : w11.cell? ⟨gb341, 3, none⟩ = some (.string (⟨#[]⟩ : ByteArray)) := (zac BK341.out 3).trans rfl; have hcz13_4 : w11.cell? ⟨gb341, 4, none⟩ = some (.int .i64 0) := (zac BK341.out 4).trans rfl; have hcz13_5 : w11.cell? ⟨gb341, 5, none⟩ = some (.int .i64 0) := (zac BK341.out 5).trans rfl; have hfz13_0 := zaf BK341.out 0; have hfz13_1 := zaf BK341.out 1; have hfz13_2 := zaf BK341.out 2; have hfz13_3 := zaf BK341.out 3; have hfz13_4 := zaf BK341.out 4; have hfz13_5 := zaf BK341.out 5))
       go_roundg k1
       case measure => have := HK1.out; omega
       case rel => exact ⟨(wrap64 (x8_1 + 1)), (by first | rfl | (simp; done) | (simp [*]; done)), H', ⟨by have := HK1.out; omega⟩, ⟨by (with_reducible repeat (first | refine zaj ?_ _ | refine zak ?_ | refine zai ?_ _)); refine zaD ?_ NB339_341.out _; (with_reducible repeat (first | refine zaj ?_ _ | refine zak ?_ | refine zai ?_ _)); refine zaD ?_ NB339_341.out _; (with_reducible repeat (first | refine zaj ?_ _ | refine zak ?_ | refine zai ?_ _)); refine zaD ?_ NB339_341.out _; (with_reducible repeat (first | refine zaj ?_ _ | refine zak ?_ | refine zai ?_ _)); refine zaD ?_ NB339_341.out _; (with_reducible repeat (first | refine zaj ?_ _ | refine zak ?_ | refine zai ?_ _)); refine zaD ?_ NB339_341.out _; (with_reducible repeat (first | refine zaj ?_ _ | refine zak ?_ | refine zai ?_ _)); refine zaD ?_ NB339_341.out _; (with_reducible repeat (first | refine zaj ?_ _ | refine zak ?_ | refine zai ?_ _)); exact BK339.out⟩, ⟨by repeat (first | (with_reducible first | exact HB.out | apply zad | apply zab | apply zae | refine zal ?_ GE339.out | refine zal ?_ GE341.out) | exact HB.out)⟩⟩
     ·rw [if_neg c6] at H
      exact absurd H (by simp)
    ·rw [if_neg c5] at H
     exact absurd H (by simp)
   ·rw [if_neg c4] at H
    have c4b0 : decide (x8_1 < (l0_0.length : Int)) = false := decide_eq_false c4
    clear c4
    obtain rfl := Option.some.inj H
    have hcz14_0 := (zac BK339.out 0).trans rfl
    have hfz14_0 := zaf BK339.out 0
    go_wp2
    go_ret
    exact ⟨by first | rfl | (simp [zaw, zav] <;> rfl) | (simp [*, zaw, zav] <;> rfl), by repeat (first | (with_reducible first | exact HB.out | apply zad | apply zab | apply zae | refine zal ?_ GE339.out) | exact HB.out)⟩
def za9.j0 : Nat → ByteArray → Bool → Option (Int)
 | 0, _, _ => none
 | k + 1, x1, x8 => if x8 = true then (some 28) else (if (x1.size : Int) > 512 then (some 37) else (some 0))
def za9.f (k : Nat) (a0 : Int) (a1 : ByteArray) : Option (Int) := if a0 = 3 then (if a1.toList = ([] : List UInt8) then (za9.j0 k a1 true) else ((strings_IndexByte.f a1 0).bind fun t342 => (za9.j0 k a1 (decide (t342 ≥ 0))))) else (some 0)
theorem za9.mono_l : ∀ k, (∀ y0 y1, LeO (za9.j0 k y0 y1) (za9.j0 (k + 1) y0 y1))
 | 0 => fun _ _ r h => by simp [za9.j0] at h
 | k + 1 => by
  have ih0 := za9.mono_l k
  ·intro y0 y1
   unfold za9.j0
   repeat' first
   | (with_reducible exact ih0 _ _)
   | (with_reducible exact LeO.refl _)
   | (with_reducible exact LeO.none _)
   | (with_reducible refine LeO.ite ?_ ?_)
   | (with_reducible refine LeO.bind ?_ (fun _ => ?_))
   | exact ih0 _ _
   | exact LeO.none _
   | refine LeO.ite ?_ ?_
   | refine LeO.bind ?_ (fun _ => ?_)
theorem za9.mono : ∀ a0 a1 k, LeO (za9.f k a0 a1) (za9.f (k + 1) a0 a1) := by
 intro a0 a1 k
 have ih0 := za9.mono_l k
 unfold za9.f
 repeat' first
   | (with_reducible exact ih0 _ _)
   | (with_reducible exact LeO.refl _)
   | (with_reducible exact LeO.none _)
   | (with_reducible refine LeO.ite ?_ ?_)
   | (with_reducible refine LeO.bind ?_ (fun _ => ?_))
   | exact ih0 _ _
   | exact LeO.none _
   | refine LeO.ite ?_ ?_
   | refine LeO.bind ?_ (fun _ => ?_)
set_option maxHeartbeats 8000000 in
set_option maxRecDepth 100000 in
theorem za9.calls (k : Nat) (a0 : Int) (a1 : ByteArray) (r : Int) (w : World) (h : za9.f k a0 a1 = some r) :
  Calls Tryz.prog 89 #[.int .i64 a0, .string a1] w fun e w' => e = .returned (.int .i64 r) ∧ zaQ w w' := by
 have H : (if a0 = 3 then (if a1.toList = ([] : List UInt8) then (za9.j0 k a1 true) else ((strings_IndexByte.f a1 0).bind fun t342 => (za9.j0 k a1 (decide (t342 ≥ 0))))) else (some 0)) = some r := h
 clear h
 by_cases c3 : a0 = 3
 ·rw [if_pos c3] at H
  have c3b0 : (a0 == 3) = true := beq_iff_eq.mpr c3
  have c3b1 : (a0 != 3) = false := bne_eq_false_iff_eq.mpr c3
  clear c3
  have HC4 := zaa.mk H
  clear H
  go_enter Tryz.func89, Tryz.ntmps89
  go_upto_region 3 with (fail)
  go_cut [8] (fun v8 wc => ∃ (kq : Nat) (x8_3 : Bool), v8 = .bool x8_3 ∧ zaa (za9.j0 kq a1 x8_3 = some r) ∧ zaa (kq ≤ k) ∧ zaQ w wc)
  case first =>
   have H := HC4.out
   clear HC4
   by_cases c5 : a1.toList = ([] : List UInt8)
   focus
    rw [if_pos c5] at H
    have c5b0 : (a1.toList == ([] : List UInt8)) = true := beq_iff_eq.mpr c5
    have c5b1 : (a1.toList != ([] : List UInt8)) = false := bne_eq_false_iff_eq.mpr c5
    clear c5
    (first | rw [c5b0] | (simp only [zbo, zbr]; rw [c5b0]) | skip)
   rotate_left 1
   focus
    rw [if_neg c5] at H
    have c5b0 : (a1.toList == ([] : List UInt8)) = false := beq_eq_false_iff_ne.mpr c5
    have c5b1 : (a1.toList != ([] : List UInt8)) = true := bne_iff_ne.mpr c5
    (first | rw [c5b0] | (simp only [zbo, zbr]; rw [c5b0]) | skip)
    replace H := Option.bind_eq_some_iff.mp H
    obtain ⟨t342, A60, H⟩ := H
    replace H : (za9.j0 k a1 (decide (t342 ≥ 0))) = some r := H
    have A6 := zaa.mk A60
    clear A60
   all_goals
    have H' := zaa.mk H
    clear H
    go_wp2_with (first | (go_at_call 87; (with_reducible refine (strings_IndexByte.calls a1 0 _ _ A6.out).mono ?_); rintro e w' ⟨rfl, ⟨nd, rfl⟩⟩))
    go_meet
    case rel => first | (exact ⟨_, (true), (by first | rfl | (simp; done) | (simp [*]; done)), H', ⟨by first | omega | exact Nat.le_refl _⟩, by repeat (first | exact zaQ.refl _ | apply zaQ.step)⟩) | (exact ⟨_, (decide (t342 ≥ 0)), (by first | rfl | (simp; done) | (simp [*]; done)), H', ⟨by first | omega | exact Nat.le_refl _⟩, by repeat (first | exact zaQ.refl _ | apply zaQ.step)⟩)
  case rest =>
   clear HC4
   try clear c3
   try clear c3b0
   try clear c3b1
   obtain ⟨kq, x8_3, rfl, HA, HJ3, ⟨mc3, rfl⟩⟩ := hcut
   cases kq with
   | zero => exact absurd HA.out (by simp [za9.j0])
   | succ kj3 =>
    have H := HA.out
    clear HA
    simp only [za9.j0] at H
    by_cases c7 : x8_3 = true
    focus
     subst c7
     have H1 : (some 28) = some r := by rw [if_pos rfl] at H; exact H
     clear H
     have H := H1
     clear H1
     obtain rfl := Option.some.inj H
    rotate_left 1
    focus
     replace c7 := Bool.eq_false_iff.mpr c7
     subst c7
     have H1 : (if (a1.size : Int) > 512 then (some 37) else (some 0)) = some r := by rw [if_neg (show ¬ (false = true) by decide)] at H; exact H
     clear H
     have H := H1
     clear H1
     by_cases c8 : (a1.size : Int) > 512
     focus
      rw [if_pos c8] at H
      have c8b0 : decide (512 < (a1.size : Int)) = true := decide_eq_true c8
      have c8b1 : decide (512 < a1.size) = true := decide_eq_true (by omega)
      clear c8
      obtain rfl := Option.some.inj H
     rotate_left 1
     focus
      rw [if_neg c8] at H
      have c8b0 : decide (512 < (a1.size : Int)) = false := decide_eq_false c8
      have c8b1 : decide (512 < a1.size) = false := decide_eq_false (by omega)
      clear c8
      obtain rfl := Option.some.inj H
    all_goals
     go_wp2
     go_ret
     exact ⟨by first | rfl | (simp; done) | (simp [*]; done), by repeat (first | exact zaQ.refl _ | apply zaQ.step)⟩
 ·rw [if_neg c3] at H
  have c3b0 : (a0 == 3) = false := beq_eq_false_iff_ne.mpr c3
  have c3b1 : (a0 != 3) = true := bne_iff_ne.mpr c3
  obtain rfl := Option.some.inj H
  go_enter Tryz.func89, Tryz.ntmps89
  go_wp2
  go_ret
  exact ⟨by first | rfl | (simp; done) | (simp [*]; done), by repeat (first | exact zaQ.refl _ | apply zaQ.step)⟩
def makeR (k : Nat) (l : List S40) (dir : Int) (s : ByteArray) (kind : Int) (target : ByteArray) : Option (Int × Int) :=
 (zbi.f k l).bind fun n => (za9.f k kind target).bind fun b => (zcq.f k l dir s b).bind fun e => some (if e = 0 then (if n = 64 then 51 else 0) else e, n)
def makeP (k : Nat) (l : List S40) (dir : Int) (kind : Int) (target : ByteArray) (now : Int) : Option Bool :=
 (zbv.f k l [dir]).bind fun m => if m = true then (zbh.f now).bind fun tm => some (tm && (decide (1 ≤ kind) && (decide (kind ≤ 3) && (kind == 3 || target.toList == ([] : List UInt8))))) else some false
def makeE (k : Nat) (l : List S40) (dir : Int) (s : ByteArray) (kind : Int) (target : ByteArray) (now : Int) : Option (Int × Int) :=
 (makeP k l dir kind target now).bind fun p => if p = true then makeR k l dir s kind target else some (100, 0)
theorem makeR_mono (l : List S40) (dir : Int) (s : ByteArray) (kind : Int) (target : ByteArray) (k : Nat) : LeO (makeR k l dir s kind target) (makeR (k + 1) l dir s kind target) :=
 LeO.bind (zbi.mono _ _) fun _ => LeO.bind (za9.mono _ _ _) fun _ => LeO.bind (zcq.mono _ _ _ _ _) fun _ => LeO.refl _
theorem makeE_mono (l : List S40) (dir : Int) (s : ByteArray) (kind : Int) (target : ByteArray) (now : Int) (k : Nat) : LeO (makeE k l dir s kind target now) (makeE (k + 1) l dir s kind target now) :=
 LeO.bind (LeO.bind (zbv.mono _ _ _) fun _ => LeO.refl _) fun _ => LeO.ite (makeR_mono _ _ _ _ _ _) (LeO.refl _)
def zbS (u : List S40) (n : Int) (kind : Int) (target : ByteArray) (now : Int) : List S40 :=
 (if n = (u.length : Int) then u ++ [z40] else u).set n.toNat ⟨kind, [], [], target, 1, now⟩
def makeD (u2 : List S40) (dir : Int) (s : ByteArray) (n now : Int) : Option (List S40) :=
 if 0 ≤ dir ∧ dir < (u2.length : Int) ∧ (zah u2 dir).f2.length ≤ 1000000 ∧ bs (zah u2 dir).f2 s ≤ (zah u2 dir).f2.length then some (addN u2 dir s n now) else none
def zbL.f (k : Nat) (l0_0 : List S40) (a1 : Int) (a2 : ByteArray) (a3 : Int) (a4 : ByteArray) (a5 : Int) : Option (List S40 × Int × Int) :=
 (makeE k l0_0 a1 a2 a3 a4 a5).bind fun q => if q.1 = 0 then (zaZ.f k l0_0).bind fun u => (if 0 ≤ q.2 ∧ q.2 ≤ (u.length : Int) ∧ u.length ≤ 1000000 then (makeD (zbS u q.2 a3 a4 a5) a1 a2 q.2 a5).bind fun r => some (r, q.2, 0) else none) else (zbw.f k l0_0 q.1).bind fun b => some (b.1, 0, b.2)
theorem zbL.mono : ∀ a0 a1 a2 a3 a4 a5 k, LeO (zbL.f k a0 a1 a2 a3 a4 a5) (zbL.f (k + 1) a0 a1 a2 a3 a4 a5) := fun _ _ _ _ _ _ _ =>
 LeO.bind (makeE_mono _ _ _ _ _ _ _) fun _ => LeO.ite (LeO.bind (zaZ.mono _ _) fun _ => LeO.refl _) (LeO.bind (zbw.mono _ _ _) fun _ => LeO.refl _)
set_option maxHeartbeats 8000000 in
set_option maxRecDepth 100000 in
theorem zbL.calls (k : Nat) (A0_0 : Option Addr) (c0_0 : Nat) (l0_0 : List S40) (a1 : Int) (a2 : ByteArray) (a3 : Int) (a4 : ByteArray) (a5 : Int) (r1 : List S40) (r2 : Int) (r3 : Int) (w : World) (hr0_0 : Kd.C k40 w A0_0 l0_0.length l0_0) (hc0_0 : l0_0.length ≤ c0_0) (h : zbL.f k l0_0 a1 a2 a3 a4 a5 = some (r1, r2, r3)) :
  Calls Tryz.prog 54 #[.agg #[.slice A0_0 l0_0.length c0_0], .int .i64 a1, .string a2, .int .i64 a3, .string a4, .int .i64 a5] w fun e w' => ∃ v0_ : Value, e = .returned (.tuple #[.agg #[v0_], .int .i64 r2, .int .i64 r3]) ∧ Kd.S k40 40 w' w.heap.size (fun _ => True) v0_ r1 ∧ Below w.heap.size w w' := by
 obtain ⟨⟨e, n⟩, hE, h⟩ := Option.bind_eq_some_iff.mp h
 have HR := zaa.mk hr0_0
 have HC := zaa.mk hc0_0
 have HE := zaa.mk hE
 have HH := zaa.mk h
 have hut := Tryz.underlying24
 have hun := Tryz.underlying40
 have hsi := Tryz.underlying95
 have HW := zaa.mk (treeW_below w A0_0 l0_0.length c0_0)
 have HW0 := zaa.mk (Below.refl (treeW w A0_0 l0_0.length c0_0).heap.size (treeW w A0_0 l0_0.length c0_0))
 clear hr0_0 hc0_0 hE h
 go_enter Tryz.func54, Tryz.ntmps54
 obtain ⟨p, hP, hE2⟩ := Option.bind_eq_some_iff.mp HE.out
 have HP := zaa.mk hP
 have HE2 := zaa.mk hE2
 clear hP hE2 HE
 go_upto_region 3 with (fail)
 go_cut [40] (fun v40 wc => v40 = .bool p ∧ zaa (Below (treeW w A0_0 l0_0.length c0_0).heap.size (treeW w A0_0 l0_0.length c0_0) wc))
 case first =>
  have hmm := HP.out
  clear HH HE2 HP
  unfold makeP at hmm
  obtain ⟨m, hm, hmm⟩ := Option.bind_eq_some_iff.mp hmm
  have HM := zaa.mk hm
  have HD := zaa.mk (Kd.zbR (R_of_blk (xs := [a1]) (k := .i64) (base := 0) (zbb (treeW w A0_0 l0_0.length c0_0) (.cells #[.int .i64 a1] 3)) (Nat.zero_le _) (by simp))).2.2
  have hWs : (treeW w A0_0 l0_0.length c0_0).heap.size = w.heap.size + 1 + 1 := by show ((w.alloc _).alloc _).heap.size = _; rw [World.size_alloc, World.size_alloc]
  rw [hWs] at HD
  clear hm hWs
  cases m with
  | false =>
   obtain rfl := Option.some.inj (show some false = some p from hmm)
   clear hmm
   go_wp2_with (first | (go_at_call 66; refine (zbv.calls k A0_0 c0_0 l0_0 (some ⟨w.heap.size + 1 + 1, 0, none⟩) 1 [a1] false _ (Kd.C_below HR.out (by repeat (first | exact HW.out | exact Below.refl _ _ | apply zad | apply zab | apply zae | apply zaB))) HC.out HD.out (by simp) HM.out).mono ?_; rintro e' w1 ⟨rfl, hb⟩; have HB1 := zaa.mk (zam (zad HW0.out _) hb); clear hb))
   go_meet
   case rel => exact ⟨rfl, HB1⟩
  | true =>
   obtain ⟨tm, ht, hmm⟩ := Option.bind_eq_some_iff.mp (show ((zbh.f a5).bind fun tm => some (tm && (decide (1 ≤ a3) && (decide (a3 ≤ 3) && (a3 == 3 || a4.toList == ([] : List UInt8)))))) = some p from hmm)
   have HT := zaa.mk ht
   have HPP := zaa.mk (Option.some.inj hmm)
   clear ht hmm
   cases tm with
   | false =>
    have HV := zaa.mk (show p = false by rw [← HPP.out]; simp [])
    obtain rfl := HV.out
    go_wp2_with (first | (go_at_call 66; refine (zbv.calls k A0_0 c0_0 l0_0 (some ⟨w.heap.size + 1 + 1, 0, none⟩) 1 [a1] true _ (Kd.C_below HR.out (by repeat (first | exact HW.out | exact Below.refl _ _ | apply zad | apply zab | apply zae | apply zaB))) HC.out HD.out (by simp) HM.out).mono ?_; rintro e' w1 ⟨rfl, hb⟩; have HB1 := zaa.mk (zam (zad HW0.out _) hb); clear hb) | (go_at_call 67; refine (zbh.calls a5 false _ HT.out).mono ?_; rintro e' w2 ⟨rfl, ⟨nd, rfl⟩⟩))
    go_meet
    case rel => exact ⟨rfl, ⟨by repeat (first | exact HB1.out | exact Below.refl _ _ | apply zad | apply zab | apply zae | apply zaB)⟩⟩
   | true =>
    by_cases k1 : 1 ≤ a3
    focus
     have K1 : decide (1 ≤ a3) = true := decide_eq_true k1
     by_cases k2 : a3 ≤ 3
     focus
      have K2 : decide (a3 ≤ 3) = true := decide_eq_true k2
      by_cases k3 : a3 = 3
      focus
       have K3 : (a3 == 3) = true := beq_iff_eq.mpr k3
       have HV := zaa.mk (show p = true by rw [← HPP.out]; simp [K1, K2, K3, k1, k2, k3])
       obtain rfl := HV.out
       try clear k1
       try clear k2
       try clear k3
      rotate_left 1
      focus
       have K3 : (a3 == 3) = false := beq_eq_false_iff_ne.mpr k3
       by_cases k4 : a4.toList = ([] : List UInt8)
       focus
        have K4 : (a4.toList == ([] : List UInt8)) = true := beq_iff_eq.mpr k4
        have HV := zaa.mk (show p = true by rw [← HPP.out]; simp [K1, K2, K3, K4, k1, k2, k3, k4])
        obtain rfl := HV.out
        try clear k1
        try clear k2
        try clear k3
        try clear k4
       rotate_left 1
       focus
        have K4 : (a4.toList == ([] : List UInt8)) = false := beq_eq_false_iff_ne.mpr k4
        have HV := zaa.mk (show p = false by rw [← HPP.out]; simp [K1, K2, K3, K4, k3, k4])
        obtain rfl := HV.out
        try clear k1
        try clear k2
        try clear k3
        try clear k4
     rotate_left 3
     focus
      have K2 : decide (a3 ≤ 3) = false := decide_eq_false k2
      have HV := zaa.mk (show p = false by rw [← HPP.out]; simp [k2])
      obtain rfl := HV.out
      try clear k1
      try clear k2
    rotate_left 4
    focus
     have K1 : decide (1 ≤ a3) = false := decide_eq_false k1
     have HV := zaa.mk (show p = false by rw [← HPP.out]; simp [k1])
     obtain rfl := HV.out
     try clear k1
    all_goals
     go_wp2_with (first | (go_at_call 66; refine (zbv.calls k A0_0 c0_0 l0_0 (some ⟨w.heap.size + 1 + 1, 0, none⟩) 1 [a1] true _ (Kd.C_below HR.out (by repeat (first | exact HW.out | exact Below.refl _ _ | apply zad | apply zab | apply zae | apply zaB))) HC.out HD.out (by simp) HM.out).mono ?_; rintro e' wq1 ⟨rfl, hb⟩; have HB1 := zaa.mk (zam (zad HW0.out _) hb); clear hb) | (go_at_call 67; refine (zbh.calls a5 true _ HT.out).mono ?_; rintro e' w2 ⟨rfl, ⟨nd, rfl⟩⟩))
     go_meet
     case rel => exact ⟨rfl, ⟨by repeat (first | exact HB1.out | exact Below.refl _ _ | apply zad | apply zab | apply zae | apply zaB)⟩⟩
 case rest =>
  clear HP HW0
  obtain ⟨rfl, HB⟩ := hcut
  have hct := zbU HB.out
  go_upto_if 40 with (fail)
  go_cut [15, 16] (fun v15 v16 wc => v15 = .int .i64 e ∧ v16 = .int .i64 n ∧ zaa (Below (treeW w A0_0 l0_0.length c0_0).heap.size (treeW w A0_0 l0_0.length c0_0) wc))
  case first =>
   clear HH
   cases p with
   | false =>
    have hq : (100, 0) = (e, n) := Option.some.inj HE2.out
    injection hq with hq1 hq2
    subst hq1; subst hq2
    go_wp2
    go_meet
    case rel => exact ⟨rfl, rfl, HB⟩
   | true =>
    obtain ⟨n1, hn1, hq⟩ := Option.bind_eq_some_iff.mp (show makeR k l0_0 a1 a2 a3 a4 = some (e, n) from HE2.out)
    obtain ⟨b, hb1, hq⟩ := Option.bind_eq_some_iff.mp hq
    obtain ⟨e1, he1, hq⟩ := Option.bind_eq_some_iff.mp hq
    injection (Option.some.inj hq) with hq1 hq2
    subst hq2
    have HN1 := zaa.mk hn1
    have HB1 := zaa.mk hb1
    have HE1 := zaa.mk he1
    have HQ1 := zaa.mk hq1
    clear hn1 hb1 he1 hq1 hq HE2
    go_wp2_with (first | (go_at_call 88; refine (zbi.calls k A0_0 c0_0 l0_0 n1 _ (Kd.C_below HR.out (zam HW.out HB.out)) HC.out HN1.out).mono ?_; rintro e' w1 ⟨rfl, hb⟩; have HB2 := zaa.mk (zam HB.out hb); have hct2 := zbU HB2.out; clear hb))
    go_region_held3 (fun w' => w'.cell? ⟨w.heap.size, 0, none⟩ = some (.slice A0_0 l0_0.length c0_0)) (first | assumption | go_keep) (first | (go_at_call 89; refine (za9.calls k a3 a4 b _ HB1.out).mono ?_; rintro e' w2 ⟨rfl, ⟨nd, rfl⟩⟩) | (go_at_call 70; refine (zcq.calls k A0_0 c0_0 l0_0 a1 a2 b e1 _ (Kd.C_below HR.out (zam HW.out (by repeat (first | exact HB2.out | exact Below.refl _ _ | apply zad | apply zab | apply zae | apply zaB)))) HC.out HE1.out).mono ?_; rintro e' w3 ⟨rfl, hb⟩; have HB3 := zaa.mk (zam (show Below (treeW w A0_0 l0_0.length c0_0).heap.size (treeW w A0_0 l0_0.length c0_0) _ from by repeat (first | exact HB2.out | exact Below.refl _ _ | apply zad | apply zab | apply zae | apply zaB)) hb); have hct3 := zbU HB3.out; clear hb))
    by_cases z1 : e1 = 0
    focus
     have Z1 : (e1 == 0) = true := beq_iff_eq.mpr z1
     have hq1 := HQ1.out
     rw [if_pos z1] at hq1
     clear z1 HQ1
     by_cases z2 : n1 = 64
     focus
      have Z2 : (n1 == 64) = true := beq_iff_eq.mpr z2
      rw [if_pos z2] at hq1
      subst hq1
      clear z2
     rotate_left 1
     focus
      have Z2 : (n1 == 64) = false := beq_eq_false_iff_ne.mpr z2
      rw [if_neg z2] at hq1
      subst hq1
      have z1' := beq_iff_eq.mp Z1
      clear z2
    rotate_left 2
    focus
     have Z1 : (e1 == 0) = false := beq_eq_false_iff_ne.mpr z1
     have hq1 := HQ1.out
     rw [if_neg z1] at hq1
     subst hq1
     clear z1 HQ1
    all_goals
     go_wp2
     go_meet
     case rel => first | (exact ⟨rfl, rfl, HB3⟩) | (exact ⟨by rw [beq_iff_eq.mp Z1], rfl, HB3⟩)
  case rest =>
   clear HE2
   obtain ⟨rfl, rfl, HB⟩ := hcut
   have hct := zbU HB.out
   by_cases z1 : e = 0
   ·have Z1 : (e != 0) = false := by simpa using z1
    have HSZ : zaa (w.heap.size + 2 ≤ wc.heap.size) := ⟨by have := HB.out.size; have h2 : (treeW w A0_0 l0_0.length c0_0).heap.size = w.heap.size + 1 + 1 := (by show ((w.alloc _).alloc _).heap.size = _; rw [World.size_alloc, World.size_alloc]); omega⟩
    obtain rfl := z1
    have hq := HH.out
    rw [if_pos rfl] at hq
    obtain ⟨u, hu, hq⟩ := Option.bind_eq_some_iff.mp hq
    split at hq
    ·rename_i hg0
     obtain ⟨r, hr, hq⟩ := Option.bind_eq_some_iff.mp hq
     injection (Option.some.inj hq) with hq1 hq2
     injection hq2 with hq2 hq3
     subst hq1; subst hq2; subst hq3
     unfold makeD at hr
     split at hr
     ·rename_i hg1
      have HADD := zaa.mk (Option.some.inj hr)
      have HU := zaa.mk hu
      have HG1 := zaa.mk hg1
      obtain ⟨n0, n1, u1⟩ := hg0
      clear HH hq hu hr hg1
      obtain ⟨N, rfl⟩ : ∃ N : Nat, n = (N : Int) := ⟨n.toNat, by omega⟩
      by_cases hn : N = u.length
      ·subst hn
       have Z2 : ((u.length : Int) == (u.length : Int)) = true := beq_self_eq_true _
       have HL2 : zaa ((zbS u (u.length : Int) a3 a4 a5).length = u.length + 1 ∧ (u ++ [z40]).set (u.length : Int).toNat ⟨a3, [], [], a4, 1, a5⟩ = zbS u (u.length : Int) a3 a4 a5) := ⟨by unfold zbS; rw [if_pos rfl]; exact ⟨by simp, rfl⟩⟩
       have p0 := eq_true (show (0 : Int) ≤ (u.length : Int) by omega)
       have p1 := eq_true (show (u.length : Int) < (u.length : Int) + 1 by omega)
       have p2 : u.length < u.length + 1 := by omega
       go_wp2_with (first | (go_at_call 71; refine (zaZ.calls k A0_0 c0_0 l0_0 u _ (Kd.C_below HR.out (zam HW.out HB.out)) HC.out HU.out).mono ?_; rintro e' w1 ⟨v, rfl, hS, hb⟩; obtain ⟨vA, vc0, rfl⟩ := Kd.zbG hS; have HB1 := zam HB.out hb; have hK := treeW_blk HB1; have hX := boxed hK.1 hK.2 (zam HW.out HB1) (Kd.zbD (Kd.zbt (ok' := (fun k => k ≠ w.heap.size ∧ k ≠ w.heap.size + 1)) (Kd.S_bound hS) (fun k hk => ⟨by have := HSZ.out; have := hk.2.1; omega, by have := HSZ.out; have := hk.2.1; omega⟩)) (zam HW.out HB.out).size); have hct1 := zbU HB1; have hf1 := zaf hK.1 0; have HK6 := zaa.mk hX.1; have HK12 := zaa.mk hX.2.1; have HS1 := zaa.mk hX.2.2.1; have HB2 := zaa.mk hX.2.2.2; have hct2 := (zac HK6.out 0).trans rfl; have hf2 := zaf HK6.out 0; clear hS hb hX HB1 hK) | (at_builtin; refine Kd.S_append k40 (w0 := w) w.heap.size rfl (.tmp 74) (.tmp 76) 22 40 (.agg #[.int .i64 0, .slice none 0 0, .slice none 0 0, .string ⟨#[]⟩, .int .i64 0, .int .i64 0]) 88 rfl Tryz.underlying22 info40 rfl (by decide) (by omega) (.slice vA u.length vc0) u z40 [.int .i64 0, .slice none 0 0, .slice none 0 0, .string ⟨#[]⟩, .int .i64 0, .int .i64 0] (fun k => k ≠ w.heap.size ∧ k ≠ w.heap.size + 1) (fun _ => False) rfl ?hx (zcg _ _ _ z40 (Kd.R_nil _ _ _ _ _) (Kd.R_nil _ _ _ _ _)) (fun _ hk => hk.elim) (fun q hq => ⟨by have := zaO HK12.out; omega, by have := zaO HK12.out; omega⟩) (Kd.zbt HS1.out (fun _ hk => ⟨hk, fun h => h⟩)) HB2.out HB2.out.size (by omega) ?_; (case hx => exact congrArg (fun q => Value.slice (some ⟨q, 0, none⟩) 1 1) (show w1.heap.size = (w1.setCell ⟨w.heap.size, 0, none⟩ (.slice vA u.length vc0)).heap.size by simp [World.setCell])); intro v2 w2 hS2 hb2 hg2 hat; obtain ⟨g, vc, e2, hgN, hgl, _⟩ := Kd.S_form hS2 (by simp); rw [show (u ++ [z40]).length = u.length + 1 from by simp] at e2; subst e2; have h6 := zbe HK6.out hg2 (Kd.S_ne HS1.out HK6.out (by decide)); have h12 := zbe HK12.out hg2 (Kd.S_ne HS1.out HK12.out (by decide)); have hX := boxed h6 h12 hb2 hS2; have hct3 := (zac h6 0).trans rfl; have hf3 := zaf h6 0; clear HK6 HK12 HS1 HB2; have HK6 := zaa.mk hX.1; have HK12 := zaa.mk hX.2.1; have HS1 := zaa.mk hX.2.2.1; have HB2 := zaa.mk hX.2.2.2; have hct4 := (zac HK6.out 0).trans rfl; have hf4 := zaf HK6.out 0; clear hS2 hb2 hg2 hat h6 h12 hX; obtain ⟨oki, cs, hcl, _, _, _, hH⟩ := Kd.S_lend HS1.out z40 ((u.length : Int) : Int) (by omega) (by omega); have HCL := zaa.mk hcl; have HH1 := zaa.mk hH; clear hcl hH) | (refine Kd.H_store k40 (w0 := w) w.heap.size rfl rfl 40 (.tmp 86) (.tmp 85) rfl 40 (o' := u.length * 6) ((u.length : Int) : Int) 0 (u ++ [z40]) ⟨a3, [], [], a4, 1, a5⟩ (.agg #[.int .i64 a3, .slice none 0 0, .slice none 0 0, .string a4, .int .i64 1, .int .i64 a5]) [.int .i64 a3, .slice none 0 0, .slice none 0 0, .string a4, .int .i64 1, .int .i64 a5] cs (fun k => k ≠ w.heap.size ∧ k ≠ w.heap.size + 1) oki (fun _ => False) rfl rfl rfl rfl (by kernel_rfl) (one6 _ _ _ _) HH1.out (by omega) (by omega) (by show 0 + 6 ≤ 6; omega) (by rw [List.drop_eq_nil_of_le (by rw [HCL.out]; show 6 ≤ 0 + 6; omega)]; exact zcg _ _ _ ⟨a3, [], [], a4, 1, a5⟩ (Kd.R_nil _ _ _ _ _) (Kd.R_nil _ _ _ _ _)) (fun _ hk => hk.elim) HB2.out ?_; intro w4 hS4 hb4 hg4; have HNE := Kd.S_ne HS1.out HK6.out (by decide); have HNE12 := Kd.S_ne HS1.out HK12.out (by decide); have HK6b := zaa.mk (zbe HK6.out hg4 HNE); have HK12b := zaa.mk (zbe HK12.out hg4 HNE12); have HS4 := zaa.mk hS4; have HB4 := zaa.mk hb4; have hct6 := (zac HK6b.out 0).trans rfl; have hct412 := (zac HK12b.out 0).trans rfl; clear hS4 hb4 hg4 HNE HNE12) | (go_at_call 72; have hadd := tree_add.calls w4 w.heap.size g vc (fun k => k ≠ w.heap.size ∧ k ≠ w.heap.size + 1) (zbS u ((u.length : Int) : Int) a3 a4 a5) a1 a2 ((u.length : Int) : Int) a5 (by rw [HL2.out.1, ← HL2.out.2]; exact HS4.out) HG1.out.1 HG1.out.2.1 (fun q hq => ⟨by have := zaO HK12b.out; omega, by have := zaO HK12b.out; omega⟩) HB4.out.size (by have := HG1.out.2.2.1; omega) HG1.out.2.2.2; rw [HL2.out.1] at hadd; refine hadd.mono ?_; rintro e' w5 ⟨rfl, hS5, hb5, ho5⟩; have HK6c := zaa.mk ((ho5 w.heap.size (zaO HK6b.out) (by simp)).trans HK6b.out); have HK12c := zaa.mk ((ho5 (w.heap.size + 1) (zaO HK12b.out) (by simp)).trans HK12b.out); have HS5 := zaa.mk hS5; have HB5 := zaa.mk (HB4.out.trans hb5); have hct5 := (zac HK6c.out 0).trans rfl; have hct512 := (zac HK12c.out 0).trans rfl; have hf512 := zaf HK12c.out 0; clear hadd hS5 hb5 ho5))
       refine bodyPost_ret (results_ctt rfl _ _ (w.heap.size + 1) 24 #[.slice (some ⟨g, 0, none⟩) (u.length + 1) vc] (0, 0) _ rfl (zaP HK12c.out 0 _ rfl) Tryz.underlying24 rfl (by kernel_rfl)) rfl ?_
       refine ⟨_, rfl, ?_, HB5.out.setCell (p := ⟨w.heap.size + 1, 0, none⟩) (by show _ ≤ _ + 1; omega) _⟩
       rw [← HADD.out]
       exact Kd.zbt (Kd.S_set HS5.out HK12c.out (by decide) 0 _) (fun _ _ => trivial)
      ·have Z2 : ((N : Int) == (u.length : Int)) = false := beq_eq_false_iff_ne.mpr (by omega)
       have Z2b : (N == u.length) = false := beq_eq_false_iff_ne.mpr (by omega)
       have hlt : N < u.length := by omega
       have HL2 : zaa ((zbS u (N : Int) a3 a4 a5).length = u.length ∧ u.set (N : Int).toNat ⟨a3, [], [], a4, 1, a5⟩ = zbS u (N : Int) a3 a4 a5) := ⟨by unfold zbS; rw [if_neg (by omega)]; exact ⟨List.length_set, rfl⟩⟩
       have p0 := eq_true (show (0 : Int) ≤ (N : Int) by omega)
       have p1 := eq_true (show (N : Int) < (u.length : Int) by omega)
       go_wp2_with (first | (go_at_call 71; refine (zaZ.calls k A0_0 c0_0 l0_0 u _ (Kd.C_below HR.out (zam HW.out HB.out)) HC.out HU.out).mono ?_; rintro e' w1 ⟨v, rfl, hS, hb⟩; obtain ⟨g, vc, rfl, hgN, hgl, _⟩ := Kd.S_form hS (by omega); have HB1 := zam HB.out hb; have hK := treeW_blk HB1; have hX := boxed hK.1 hK.2 (zam HW.out HB1) (Kd.zbD (Kd.zbt (ok' := (fun k => k ≠ w.heap.size ∧ k ≠ w.heap.size + 1)) (Kd.S_bound hS) (fun k hk => ⟨by have := HSZ.out; have := hk.2.1; omega, by have := HSZ.out; have := hk.2.1; omega⟩)) (zam HW.out HB.out).size); have hct1 := zbU HB1; have hf1 := zaf hK.1 0; have HK6 := zaa.mk hX.1; have HK12 := zaa.mk hX.2.1; have HS1 := zaa.mk hX.2.2.1; have HB2 := zaa.mk hX.2.2.2; have hct2 := (zac HK6.out 0).trans rfl; have hf2 := zaf HK6.out 0; clear hS hb hX HB1 hK; obtain ⟨oki, cs, hcl, _, _, _, hH⟩ := Kd.S_lend HS1.out z40 ((N : Int) : Int) (by omega) (by omega); have HCL := zaa.mk hcl; have HH1 := zaa.mk hH; clear hcl hH) | (refine Kd.H_store k40 (w0 := w) w.heap.size rfl rfl 40 (.tmp 86) (.tmp 85) rfl 40 (o' := N * 6) ((N : Int) : Int) 0 u ⟨a3, [], [], a4, 1, a5⟩ (.agg #[.int .i64 a3, .slice none 0 0, .slice none 0 0, .string a4, .int .i64 1, .int .i64 a5]) [.int .i64 a3, .slice none 0 0, .slice none 0 0, .string a4, .int .i64 1, .int .i64 a5] cs (fun k => k ≠ w.heap.size ∧ k ≠ w.heap.size + 1) oki (fun _ => False) rfl rfl rfl rfl (by kernel_rfl) (one6 _ _ _ _) HH1.out (by omega) (by omega) (by show 0 + 6 ≤ 6; omega) (by rw [List.drop_eq_nil_of_le (by rw [HCL.out]; show 6 ≤ 0 + 6; omega)]; exact zcg _ _ _ ⟨a3, [], [], a4, 1, a5⟩ (Kd.R_nil _ _ _ _ _) (Kd.R_nil _ _ _ _ _)) (fun _ hk => hk.elim) HB2.out ?_; intro w4 hS4 hb4 hg4; have HNE := Kd.S_ne HS1.out HK6.out (by decide); have HNE12 := Kd.S_ne HS1.out HK12.out (by decide); have HK6b := zaa.mk (zbe HK6.out hg4 HNE); have HK12b := zaa.mk (zbe HK12.out hg4 HNE12); have HS4 := zaa.mk hS4; have HB4 := zaa.mk hb4; have hct4 := (zac HK6b.out 0).trans rfl; have hct412 := (zac HK12b.out 0).trans rfl; clear hS4 hb4 hg4 HNE HNE12) | (go_at_call 72; have hadd := tree_add.calls w4 w.heap.size g vc (fun k => k ≠ w.heap.size ∧ k ≠ w.heap.size + 1) (zbS u ((N : Int) : Int) a3 a4 a5) a1 a2 ((N : Int) : Int) a5 (by rw [HL2.out.1, ← HL2.out.2]; exact HS4.out) HG1.out.1 HG1.out.2.1 (fun q hq => ⟨by have := zaO HK12b.out; omega, by have := zaO HK12b.out; omega⟩) HB4.out.size (by have := HG1.out.2.2.1; omega) HG1.out.2.2.2; rw [HL2.out.1] at hadd; refine hadd.mono ?_; rintro e' w5 ⟨rfl, hS5, hb5, ho5⟩; have HK6c := zaa.mk ((ho5 w.heap.size (zaO HK6b.out) (by simp)).trans HK6b.out); have HK12c := zaa.mk ((ho5 (w.heap.size + 1) (zaO HK12b.out) (by simp)).trans HK12b.out); have HS5 := zaa.mk hS5; have HB5 := zaa.mk (HB4.out.trans hb5); have hct5 := (zac HK6c.out 0).trans rfl; have hct512 := (zac HK12c.out 0).trans rfl; have hf512 := zaf HK12c.out 0; clear hadd hS5 hb5 ho5))
       refine bodyPost_ret (results_ctt rfl _ _ (w.heap.size + 1) 24 #[.slice (some ⟨g, 0, none⟩) u.length vc] (0, 0) _ rfl (zaP HK12c.out 0 _ rfl) Tryz.underlying24 rfl (by kernel_rfl)) rfl ?_
       refine ⟨_, rfl, ?_, HB5.out.setCell (p := ⟨w.heap.size + 1, 0, none⟩) (by show _ ≤ _ + 1; omega) _⟩
       rw [← HADD.out]
       exact Kd.zbt (Kd.S_set HS5.out HK12c.out (by decide) 0 _) (fun _ _ => trivial)
     ·cases hr
    ·cases hq
   ·have Z1 : (e != 0) = true := by simpa using z1
    have hq := HH.out
    rw [if_neg z1] at hq
    obtain ⟨⟨b1, b2⟩, hbad, hq⟩ := Option.bind_eq_some_iff.mp hq
    have HBAD := zaa.mk hbad
    injection (Option.some.inj hq) with hq1 hq2
    injection hq2 with hq2 hq3
    subst hq1; subst hq2; subst hq3
    clear HH hq hbad z1
    go_wp2_with (first | (go_at_call 68; refine (zbw.calls k A0_0 c0_0 l0_0 e b1 b2 _ (Kd.C_below HR.out (zam HW.out HB.out)) HC.out HBAD.out).mono ?_; rintro e' w1 ⟨v, rfl, hS, hb⟩; obtain ⟨vA, vc, rfl⟩ := Kd.zbG hS; have HS1 := zaa.mk hS; have HB1 := zaa.mk (zam HB.out hb); have HK := zaa.mk (treeW_blk HB1.out); have hct1 := zbU HB1.out; have hf1 := zaf HK.out.1 0; have HK2 := zaa.mk (zaP HK.out.1 0 (.slice vA b1.length vc) rfl); have HK3 := zaa.mk (zaD HK.out.2 (p := ⟨w.heap.size, 0, none⟩) (by simp) (.slice vA b1.length vc)); have hct2 := (zac HK2.out 0).trans rfl; have hct3 := (zac HK3.out 0).trans rfl; have hf3 := zaf HK3.out 0; clear hS hb))
    refine bodyPost_ret (results_ctt rfl _ _ (w.heap.size + 1) 24 #[.slice vA b1.length vc] (0, 0) _ rfl (zaP HK3.out 0 _ rfl) Tryz.underlying24 rfl (by kernel_rfl)) rfl ?_
    refine ⟨_, rfl, Kd.S_set (Kd.S_set (Kd.zbD HS1.out (zam HW.out HB.out).size) HK.out.1 (by decide) 0 _) HK3.out (by decide) 0 _, ?_⟩
    exact ((zam HW.out HB1.out).setCell (p := ⟨w.heap.size, 0, none⟩) (Nat.le_refl _) _).setCell (p := ⟨w.heap.size + 1, 0, none⟩) (by show _ ≤ _ + 1; omega) _
def zbm.f (k : Nat) (l0_0 : List (S40)) (a1 : Int) (l2_0 : List (S40)) (a3 : Int) : Option (Bool) := (za3.f a1).bind fun t345 => (if t345 = a3 then ((za7.f k l0_0 l2_0).bind fun t346 => (some t346)) else (some false))
set_option maxHeartbeats 8000000 in
set_option maxRecDepth 100000 in
theorem zbm.calls (k : Nat) (A0_0 : Option Addr) (c0_0 : Nat) (l0_0 : List (S40)) (a1 : Int) (A2_0 : Option Addr) (c2_0 : Nat) (l2_0 : List (S40)) (a3 : Int) (r : Bool) (w : World) (hr0_0 : Kd.C k40 w A0_0 l0_0.length l0_0) (hc0_0 : l0_0.length ≤ c0_0) (hr2_0 : Kd.C k40 w A2_0 l2_0.length l2_0) (hc2_0 : l2_0.length ≤ c2_0) (h : zbm.f k l0_0 a1 l2_0 a3 = some r) :
  Calls Tryz.prog 55 #[.agg #[.slice A0_0 l0_0.length c0_0], .int .i64 a1, .agg #[.slice A2_0 l2_0.length c2_0], .int .i64 a3] w fun e w' => e = .returned (.bool r) ∧ Below w.heap.size w w' := by
 have hu24 := Tryz.underlying24
 have HR0_0 := zaa.mk hr0_0
 have HC0_0 := zaa.mk hc0_0
 clear hr0_0 hc0_0
 have HR2_0 := zaa.mk hr2_0
 have HC2_0 := zaa.mk hc2_0
 clear hr2_0 hc2_0
 have HB := zaa.mk (Below.refl w.heap.size w)
 have H : ((za3.f a1).bind fun t345 => (if t345 = a3 then ((za7.f k l0_0 l2_0).bind fun t346 => (some t346)) else (some false))) = some r := h
 clear h
 replace H := Option.bind_eq_some_iff.mp H
 obtain ⟨t345, A50, H⟩ := H
 replace H : (if t345 = a3 then ((za7.f k l0_0 l2_0).bind fun t346 => (some t346)) else (some false)) = some r := H
 have A5 := zaa.mk A50
 clear A50
 by_cases c6 : t345 = a3
 focus
  rw [if_pos c6] at H
  have c6b0 : (t345 == a3) = true := beq_iff_eq.mpr c6
  have c6b1 : (t345 != a3) = false := bne_eq_false_iff_eq.mpr c6
  clear c6
  replace H := Option.bind_eq_some_iff.mp H
  obtain ⟨t346, A70, H⟩ := H
  replace H : (some t346) = some r := H
  have A7 := zaa.mk A70
  clear A70
  obtain rfl := Option.some.inj H
 rotate_left 1
 focus
  rw [if_neg c6] at H
  have c6b0 : (t345 == a3) = false := beq_eq_false_iff_ne.mpr c6
  have c6b1 : (t345 != a3) = true := bne_iff_ne.mpr c6
  obtain rfl := Option.some.inj H
 all_goals
  go_enter Tryz.func55, Tryz.ntmps55
  go_wp2_with (first | ((with_reducible refine zaS (N := 4) rfl ?_); refine zaG ?hg (N := 4) ?hd (cs := #[.slice A0_0 l0_0.length c0_0]) (t := 24) ?hr ?_; (case hd => rfl); (case hg => rfl); (case hr => first | (go_simp; done) | (go_simp; rfl)); intro gb343 hg wq1 hbox hb; have n0_ := zaa.mk (zam (by repeat (first | (with_reducible first | exact HB.out | apply zad | apply zab | apply zae) | exact HB.out)) hb); have n1_ := zaa.mk (hbox); have n2_ := zaa.mk ((by rw [hg]; exact (zar (by repeat (first | (with_reducible first | exact HB.out | apply zad | apply zab | apply zae) | exact HB.out))) : w.heap.size ≤ gb343)); have n3_ := zaa.mk ((by rw [hg]; exact (zar (by repeat (first | (with_reducible first | exact HB.out | apply zad | apply zab | apply zae) | exact HB.out))) : w.heap.size ≤ gb343)); clear HB; have HB := n0_; have BK343 := n1_; have GW343 := n2_; have GE343 := n3_; clear n0_ n1_ n2_ n3_; clear hb hbox hg) | ((with_reducible refine zaS (N := 6) rfl ?_); refine zaG ?hg (N := 6) ?hd (cs := #[.slice A2_0 l2_0.length c2_0]) (t := 24) ?hr ?_; (case hd => rfl); (case hg => rfl); (case hr => first | (go_simp; done) | (go_simp; rfl)); intro gb344 hg wq2 hbox hb; have n0_ := zaa.mk (zan (g := gb343) (o := .cells #[.slice A0_0 l0_0.length c0_0] 24 (0, 0)) (by (with_reducible repeat (first | refine zaj ?_ _ | refine zak ?_ | refine zai ?_ _)); exact BK343.out) hb); have n1_ := zaa.mk (zam (by repeat (first | (with_reducible first | exact HB.out | apply zad | apply zab | apply zae | refine zal ?_ GE343.out) | exact HB.out)) hb); have n2_ := zaa.mk (hbox); have n3_ := zaa.mk ((by rw [hg]; exact (zar (by repeat (first | (with_reducible first | exact HB.out | apply zad | apply zab | apply zae | refine zal ?_ GE343.out) | exact HB.out))) : w.heap.size ≤ gb344)); have n4_ := zaa.mk ((by rw [hg]; exact (zar (by repeat (first | (with_reducible first | exact HB.out | apply zad | apply zab | apply zae | refine zal ?_ GE343.out) | exact HB.out))) : w.heap.size ≤ gb344)); have n5_ := zaa.mk ((by rw [hg]; exact Nat.ne_of_lt (zaO (g := gb343) (o := .cells #[.slice A0_0 l0_0.length c0_0] 24 (0, 0)) (by (with_reducible repeat (first | refine zaj ?_ _ | refine zak ?_ | refine zai ?_ _)); exact BK343.out)) : gb343 ≠ gb344)); have n6_ := zaa.mk ((by rw [hg]; exact Nat.ne_of_gt (zaO (g := gb343) (o := .cells #[.slice A0_0 l0_0.length c0_0] 24 (0, 0)) (by (with_reducible repeat (first | refine zaj ?_ _ | refine zak ?_ | refine zai ?_ _)); exact BK343.out)) : gb344 ≠ gb343)); clear BK343; clear HB; have BK343 := n0_; have HB := n1_; have BK344 := n2_; have GW344 := n3_; have GE344 := n4_; have NB343_344 := n5_; have NB344_343 := n6_; clear n0_ n1_ n2_ n3_ n4_ n5_ n6_; clear hb hbox hg) | ((with_reducible refine zaY (f := 15) rfl ?_); refine zbI (some 10) rfl rfl Tryz.func15 (by kernel_rfl) rfl #[.int .i64 a1] rfl (by (try simp only [List.map_toArray, List.map_cons, List.map_nil]); first | done | rfl | (simp only [List.length_drop, List.length_take]; rfl)) ?_; (with_reducible refine (za3.calls a1 _ _ A5.out).mono ?_); rintro e w' ⟨rfl, ⟨nd, rfl⟩⟩; refine ⟨_, rfl, ?_⟩; have hnbq3 := NB343_344.out; have hncq3 := NB344_343.out; have hczq4_0 : wq2.cell? ⟨gb343, 0, none⟩ = some (.slice A0_0 l0_0.length c0_0) := (zac BK343.out 0).trans rfl; have hfzq4_0 := zaf BK343.out 0; have hczq5_0 : wq2.cell? ⟨gb344, 0, none⟩ = some (.slice A2_0 l2_0.length c2_0) := (zac BK344.out 0).trans rfl; have hfzq5_0 := zaf BK344.out 0) | (go_at_call 17; (with_reducible refine (za7.calls k _ _ l0_0 _ _ l2_0 _ _ ?side1 ?side2 ?side3 ?side4 A7.out).mono ?_); (case side1 => repeat (first | exact (Kd.C_below HR0_0.out (by repeat (first | (with_reducible first | exact HB.out | apply zad | apply zab | apply zae | refine zal ?_ GE343.out | refine zal ?_ GE344.out) | exact HB.out))) | (with_reducible refine Kd.C_alloc ?_ _) | (with_reducible refine Kd.C_drewN ?_ _) | (with_reducible refine Kd.C_drew ?_))); (case side2 => exact HC0_0.out); (case side3 => repeat (first | exact (Kd.C_below HR2_0.out (by repeat (first | (with_reducible first | exact HB.out | apply zad | apply zab | apply zae | refine zal ?_ GE343.out | refine zal ?_ GE344.out) | exact HB.out))) | (with_reducible refine Kd.C_alloc ?_ _) | (with_reducible refine Kd.C_drewN ?_ _) | (with_reducible refine Kd.C_drew ?_))); (case side4 => exact HC2_0.out); rintro e wq6 ⟨rfl, hb⟩; have n0_ := zaa.mk (zan (g := gb343) (o := .cells #[.slice A0_0 l0_0.length c0_0] 24 (0, 0)) (by (with_reducible repeat (first | refine zaj ?_ _ | refine zak ?_ | refine zai ?_ _)); exact BK343.out) hb); have n1_ := zaa.mk (zan (g := gb344) (o := .cells #[.slice A2_0 l2_0.length c2_0] 24 (0, 0)) (by (with_reducible repeat (first | refine zaj ?_ _ | refine zak ?_ | refine zai ?_ _)); exact BK344.out) hb); have n2_ := zaa.mk (zam (by repeat (first | (with_reducible first | exact HB.out | apply zad | apply zab | apply zae | refine zal ?_ GE343.out | refine zal ?_ GE344.out) | exact HB.out)) hb); clear BK343; clear BK344; clear HB; have BK343 := n0_; have BK344 := n1_; have HB := n2_; clear n0_ n1_ n2_; (try clear hb); (try clear hb2); (try clear hk); (try clear hi)) | ((with_reducible refine zaY (f := 15) rfl ?_); refine zbI (some 10) rfl rfl Tryz.func15 (by kernel_rfl) rfl #[.int .i64 a1] rfl (by (try simp only [List.map_toArray, List.map_cons, List.map_nil]); first | done | rfl | (simp only [List.length_drop, List.length_take]; rfl)) ?_; (with_reducible refine (za3.calls a1 _ _ A5.out).mono ?_); rintro e w' ⟨rfl, ⟨nd, rfl⟩⟩; refine ⟨_, rfl, ?_⟩))
  go_ret
  exact ⟨by first | rfl | (simp [zaw, zav] <;> rfl) | (simp [*, zaw, zav] <;> rfl), by repeat (first | (with_reducible first | exact HB.out | apply zad | apply zab | apply zae | refine zal ?_ GE343.out | refine zal ?_ GE344.out) | exact HB.out)⟩
def tree_New.f  : Option ((List (S40))) := some (([(⟨2, ([] : List Int), ([] : List (S50)), (⟨#[]⟩ : ByteArray), 1, 0⟩ : S40)] : List (S40)))
set_option maxHeartbeats 8000000 in
set_option maxRecDepth 100000 in
theorem tree_New.calls  (r : List (S40)) (w : World) (h : tree_New.f  = some r) :
  Calls Tryz.prog 18 #[] w fun e w' => ∃ v0_ : Value, e = .returned (.agg #[v0_]) ∧ Kd.S k40 40 w' w.heap.size (fun _ => True) v0_ r ∧ Below w.heap.size w w' := by
 have hu24 := Tryz.underlying24
 have hu40 := Tryz.underlying40
 have HB := zaa.mk (Below.refl w.heap.size w)
 have H : (some (([(⟨2, ([] : List Int), ([] : List (S50)), (⟨#[]⟩ : ByteArray), 1, 0⟩ : S40)] : List (S40)))) = some r := h
 clear h
 obtain ⟨y367, hy367⟩ : ∃ y_ : List (S40), y_ = (([(⟨2, ([] : List Int), ([] : List (S50)), (⟨#[]⟩ : ByteArray), 1, 0⟩ : S40)] : List (S40))) := ⟨_, rfl⟩
 replace H : (some y367) = some r := by first | (rw [hy367]; with_reducible exact H) | (have H2_ := (Option.bind_some _ _).symm.trans H; rw [hy367]; with_reducible exact H2_) | (have H2_ := (Option.bind_some _ _).symm.trans H; with_reducible exact H2_) | with_reducible exact H | (rw [hy367]; exact H) | exact H
 have Ny367 := zaa.mk hy367
 clear hy367
 obtain rfl := Option.some.inj H
 go_enter Tryz.func18, Tryz.ntmps18
 go_wp2_with (first | ((with_reducible refine zaS (N := 0) rfl ?_); refine zaG ?hg (N := 0) ?hd (cs := #[.slice none 0 0]) (t := 24) ?hr ?_; (case hd => rfl); (case hg => rfl); (case hr => first | (go_simp; done) | (go_simp; rfl)); intro gb366 hg w1 hbox hb; have n0_ := zaa.mk (zam (by repeat (first | (with_reducible first | exact HB.out | apply zad | apply zab | apply zae) | exact HB.out)) hb); have n1_ := zaa.mk (hbox); have n2_ := zaa.mk ((by rw [hg]; exact (zar (by repeat (first | (with_reducible first | exact HB.out | apply zad | apply zab | apply zae) | exact HB.out))) : w.heap.size ≤ gb366)); have n3_ := zaa.mk ((by rw [hg]; exact (zar (by repeat (first | (with_reducible first | exact HB.out | apply zad | apply zab | apply zae) | exact HB.out))) : w.heap.size ≤ gb366)); clear HB; have HB := n0_; have BK366 := n1_; have GW366 := n2_; have GE366 := n3_; clear n0_ n1_ n2_ n3_; clear hb hbox hg) | ((with_reducible refine zaS (N := 2) rfl ?_); refine Kd.S_lit k40 _ 40 ?hg (N := 2) ?hd (xs := ([(⟨2, ([] : List Int), ([] : List (S50)), (⟨#[]⟩ : ByteArray), 1, 0⟩ : S40)] : List (S40))) (inner := [.int .i64 2, .slice none 0 0, .slice none 0 0, .string (⟨#[]⟩ : ByteArray), .int .i64 1, .int .i64 0]) (ok := fun _ => True) (okp := fun _ => True) ?hr ?hp (fun _ hk => hk) trivial (Below.refl _ _) (Nat.le_refl _) (by simp) ?_; (case hd => rfl); (case hg => rfl); (case hr => first | (go_simp; done) | (go_simp; rfl)); (case hp => exact (Reps.c6 (show Kd.M k40 _ _ _ (⟨2, ([] : List Int), ([] : List (S50)), (⟨#[]⟩ : ByteArray), 1, 0⟩ : S40) [.int .i64 2, .slice none 0 0, .slice none 0 0, .string (⟨#[]⟩ : ByteArray), .int .i64 1, .int .i64 0] from (zcg _ _ _ (⟨2, ([] : List Int), ([] : List (S50)), (⟨#[]⟩ : ByteArray), 1, 0⟩ : S40) (Kd.R_nil _ _ _ _ _) (Kd.R_nil _ _ _ _ _))) (Reps.none _ _))); intro v368 w2 ho3 hb hg_ hnew_; clear hg_ hnew_; (first | rw [← Ny367.out] at ho3 | (simp only [Int.reduceToNat] at ho3; rw [← Ny367.out] at ho3)); have n0_ := zaa.mk (Kd.zbD ho3 (zar (by repeat (first | (with_reducible first | exact HB.out | apply zad | apply zab | apply zae | refine zal ?_ GE366.out) | exact HB.out)))); have n1_ := zaa.mk (zan (g := gb366) (o := .cells #[.slice none 0 0] 24 (0, 0)) (by (with_reducible repeat (first | refine zaj ?_ _ | refine zak ?_ | refine zai ?_ _)); exact BK366.out) hb); have n2_ := zaa.mk (zam (by repeat (first | (with_reducible first | exact HB.out | apply zad | apply zab | apply zae | refine zal ?_ GE366.out) | exact HB.out)) hb); clear BK366; clear HB; have HO369 := n0_; have BK366 := n1_; have HB := n2_; clear n0_ n1_ n2_; clear hb ho3; obtain ⟨Ao4, co4, eo4⟩ := Kd.zbG HO369.out; subst eo4; have hcz5_0 : w2.cell? ⟨gb366, 0, none⟩ = some (.slice none 0 0) := (zac BK366.out 0).trans rfl; have hfz5_0 := zaf BK366.out 0))
 refine bodyPost_ret (results_cell_row rfl _ _ gb366 24 #[.slice Ao4 y367.length co4] (0, 0) _ rfl (by (with_reducible repeat (first | refine zaj ?_ _ | refine zak ?_ | refine zai ?_ _)); refine zaP (cs := #[.slice none 0 0]) ?_ 0 _ rfl; (with_reducible repeat (first | refine zaj ?_ _ | refine zak ?_ | refine zai ?_ _)); exact BK366.out) Tryz.underlying24 rfl (by kernel_rfl)) rfl ?_
 exact ⟨_, by first | rfl | (simp [zaw, zav] <;> rfl) | (simp [*, zaw, zav] <;> rfl), by (with_reducible repeat (first | apply Kd.zbn | apply Kd.zbp | apply Kd.zbC)); exact Kd.zbt (Kd.S_far (p := ⟨gb366, 0, none⟩) (Kd.S_types HO369.out BK366.out (by decide)) (fun _ hk => hk.2) (.slice Ao4 y367.length co4)) (fun _ hk => trivial), by repeat (first | (with_reducible first | exact HB.out | apply zad | apply zab | apply zae | refine zal ?_ GE366.out) | exact HB.out)⟩
def za2.f (k : Nat)  : Option (Bool) := (tree_New.f).bind fun t370 => ((zbL.f k t370 0 (⟨#[97]⟩ : ByteArray) 1 (⟨#[]⟩ : ByteArray) 5).bind fun bt373 => ((za3.f bt373.2.2).bind fun t379 => (if t379 = 0 then (if bt373.2.1 = 1 then (if (bt373.1.length : Int) = 2 then (if 1 < (bt373.1.length : Int) then (some (((zah bt373.1 1).f0) == 1)) else (none)) else (some false)) else (some false)) else (some false))))
theorem za2.mono : ∀ k, LeO (za2.f k ) (za2.f (k + 1) ) := by
 intro  k
 unfold za2.f
 repeat' first
   | (with_reducible exact zbL.mono _ _ _ _ _ _ _)
   | (with_reducible exact LeO.refl _)
   | (with_reducible exact LeO.none _)
   | (with_reducible refine LeO.ite ?_ ?_)
   | (with_reducible refine LeO.bind ?_ (fun _ => ?_))
   | exact zbL.mono _ _ _ _ _ _ _
   | exact LeO.none _
   | refine LeO.ite ?_ ?_
   | refine LeO.bind ?_ (fun _ => ?_)
set_option maxHeartbeats 8000000 in
set_option maxRecDepth 100000 in
theorem za2.calls (k : Nat)  (r : Bool) (w : World) (h : za2.f k  = some r) :
  Calls Tryz.prog 20 #[] w fun e w' => e = .returned (.bool r) ∧ Below w.heap.size w w' := by
 have hu24 := Tryz.underlying24
 have HB := zaa.mk (Below.refl w.heap.size w)
 have H : ((tree_New.f).bind fun t370 => ((zbL.f k t370 0 (⟨#[97]⟩ : ByteArray) 1 (⟨#[]⟩ : ByteArray) 5).bind fun bt373 => ((za3.f bt373.2.2).bind fun t379 => (if t379 = 0 then (if bt373.2.1 = 1 then (if (bt373.1.length : Int) = 2 then (if 1 < (bt373.1.length : Int) then (some (((zah bt373.1 1).f0) == 1)) else (none)) else (some false)) else (some false)) else (some false))))) = some r := h
 clear h
 replace H := Option.bind_eq_some_iff.mp H
 obtain ⟨t370, A10, H⟩ := H
 replace H : ((zbL.f k t370 0 (⟨#[97]⟩ : ByteArray) 1 (⟨#[]⟩ : ByteArray) 5).bind fun bt373 => ((za3.f bt373.2.2).bind fun t379 => (if t379 = 0 then (if bt373.2.1 = 1 then (if (bt373.1.length : Int) = 2 then (if 1 < (bt373.1.length : Int) then (some (((zah bt373.1 1).f0) == 1)) else (none)) else (some false)) else (some false)) else (some false)))) = some r := H
 have A1 := zaa.mk A10
 clear A10
 replace H := Option.bind_eq_some_iff.mp H
 obtain ⟨⟨t373, t376, t377⟩, A20, H⟩ := H
 replace H : ((za3.f t377).bind fun t379 => (if t379 = 0 then (if t376 = 1 then (if (t373.length : Int) = 2 then (if 1 < (t373.length : Int) then (some (((zah t373 1).f0) == 1)) else (none)) else (some false)) else (some false)) else (some false))) = some r := H
 have A2 := zaa.mk A20
 clear A20
 replace H := Option.bind_eq_some_iff.mp H
 obtain ⟨t379, A30, H⟩ := H
 replace H : (if t379 = 0 then (if t376 = 1 then (if (t373.length : Int) = 2 then (if 1 < (t373.length : Int) then (some (((zah t373 1).f0) == 1)) else (none)) else (some false)) else (some false)) else (some false)) = some r := H
 have A3 := zaa.mk A30
 clear A30
 by_cases c4 : t379 = 0
 ·rw [if_pos c4] at H
  have c4b0 : (t379 == 0) = true := beq_iff_eq.mpr c4
  have c4b1 : (t379 != 0) = false := bne_eq_false_iff_eq.mpr c4
  clear c4
  by_cases c5 : t376 = 1
  ·rw [if_pos c5] at H
   have c5b0 : (t376 == 1) = true := beq_iff_eq.mpr c5
   have c5b1 : (t376 != 1) = false := bne_eq_false_iff_eq.mpr c5
   clear c5
   by_cases c6 : (t373.length : Int) = 2
   ·rw [if_pos c6] at H
    have c6b0 : ((t373.length : Int) == 2) = true := beq_iff_eq.mpr c6
    have c6b1 : ((t373.length : Int) != 2) = false := bne_eq_false_iff_eq.mpr c6
    clear c6
    by_cases c7 : 1 < (t373.length : Int)
    ·rw [if_pos c7] at H
     have c7b0 : decide (1 < (t373.length : Int)) = true := decide_eq_true c7
     have c7b1 : decide (1 < t373.length) = true := decide_eq_true (by omega)
     clear c7
     obtain rfl := Option.some.inj H
     go_enter Tryz.func20, Tryz.ntmps20
     go_wp2_with (first | ((with_reducible refine zaY (f := 18) rfl ?_); refine zbI (some 5) rfl rfl Tryz.func18 (by kernel_rfl) rfl #[] rfl (by (try simp only [List.map_toArray, List.map_cons, List.map_nil]); first | done | rfl | (simp only [List.length_drop, List.length_take]; rfl)) ?_; (with_reducible refine (tree_New.calls  t370 _ A1.out).mono ?_); rintro e w8 ⟨v371, rfl, ho0, hb⟩; refine ⟨_, rfl, ?_⟩; have n0_ := zaa.mk (Kd.zbD ho0 (zar (by repeat (first | (with_reducible first | exact HB.out | apply zad | apply zab | apply zae) | exact HB.out)))); have n1_ := zaa.mk (zam (by repeat (first | (with_reducible first | exact HB.out | apply zad | apply zab | apply zae) | exact HB.out)) hb); clear HB; have HO372 := n0_; have HB := n1_; clear n0_ n1_; (try clear hb); (try clear hb2); (try clear hk); (try clear hi); (try clear ho0); obtain ⟨Ao9, co9, eo9⟩ := Kd.zbG HO372.out; subst eo9) | ((with_reducible refine zaY (f := 54) rfl ?_); refine zbI (some 6) rfl rfl Tryz.func54 (by kernel_rfl) rfl #[.agg #[.slice Ao9 t370.length co9], .int .i64 0, .string (⟨#[97]⟩ : ByteArray), .int .i64 1, .string (⟨#[]⟩ : ByteArray), .int .i64 5] rfl (by (try simp only [List.map_toArray, List.map_cons, List.map_nil]); first | done | rfl | (simp only [List.length_drop, List.length_take]; rfl)) ?_; (with_reducible refine (zbL.calls k _ _ t370 0 (⟨#[97]⟩ : ByteArray) 1 (⟨#[]⟩ : ByteArray) 5 t373 t376 t377 _ ?side1 ?side2 A2.out).mono ?_); (case side1 => repeat (first | exact (Kd.zbx HO372.out).2.2 | (with_reducible refine Kd.C_alloc ?_ _) | (with_reducible refine Kd.C_drewN ?_ _) | (with_reducible refine Kd.C_drew ?_))); (case side2 => exact (Kd.zbx HO372.out).2.1); rintro e w10 ⟨v374, rfl, ho0, hb⟩; refine ⟨_, rfl, ?_⟩; have n0_ := zaa.mk (Kd.S_elder' (by (with_reducible repeat (first | apply Kd.zbn | apply Kd.zbp | apply Kd.zbC)); exact HO372.out) (Kd.S_base ho0) hb); have n1_ := zaa.mk (Kd.zbD (Kd.S_new' ho0 (Kd.S_lt (by (with_reducible repeat (first | apply Kd.zbn | apply Kd.zbp | apply Kd.zbC)); exact HO372.out))) (zar (by repeat (first | (with_reducible first | exact HB.out | apply zad | apply zab | apply zae) | exact HB.out)))); have n2_ := zaa.mk (zam (by repeat (first | (with_reducible first | exact HB.out | apply zad | apply zab | apply zae) | exact HB.out)) hb); clear HO372; clear HB; have HO372 := n0_; have HO375 := n1_; have HB := n2_; clear n0_ n1_ n2_; (try clear hb); (try clear hb2); (try clear hk); (try clear hi); (try clear ho0)) | ((with_reducible refine zaS (N := 1) rfl ?_); (try (refine zby (by rfl) ?_; dsimp only)); refine zaG ?hg (N := 1) ?hd (cs := #[.slice none 0 0]) (t := 24) ?hr ?_; (case hd => rfl); (case hg => rfl); (case hr => first | (go_simp; done) | (go_simp; rfl)); intro gb378 hg w11 hbox hb; have n0_ := zaa.mk (Kd.za4 (by (with_reducible repeat (first | apply Kd.zbn | apply Kd.zbp | apply Kd.zbC)); exact HO372.out) hb); have n1_ := zaa.mk (Kd.za4 (by (with_reducible repeat (first | apply Kd.zbn | apply Kd.zbp | apply Kd.zbC)); exact HO375.out) hb); have n2_ := zaa.mk (zam (by repeat (first | (with_reducible first | exact HB.out | apply zad | apply zab | apply zae) | exact HB.out)) hb); have n3_ := zaa.mk (hbox); have n4_ := zaa.mk ((by rw [hg]; exact (zar (by repeat (first | (with_reducible first | exact HB.out | apply zad | apply zab | apply zae) | exact HB.out))) : w.heap.size ≤ gb378)); have n5_ := zaa.mk ((by rw [hg]; exact (zar (by repeat (first | (with_reducible first | exact HB.out | apply zad | apply zab | apply zae) | exact HB.out))) : w.heap.size ≤ gb378)); clear HO372; clear HO375; clear HB; have HO372 := n0_; have HO375 := n1_; have HB := n2_; have BK378 := n3_; have GW378 := n4_; have GE378 := n5_; clear n0_ n1_ n2_ n3_ n4_ n5_; clear hb hbox hg; obtain ⟨Ao12, co12, eo12⟩ := Kd.zbG HO375.out; subst eo12; have hcz13_0 : w11.cell? ⟨gb378, 0, none⟩ = some (.slice none 0 0) := (zac BK378.out 0).trans rfl; have hfz13_0 := zaf BK378.out 0) | ((with_reducible refine gate_store (t := 24) (p := 1) rfl ?_); refine store_event (t := 24) (p := 1) (v := ?vo_w14) (w1 := (w11.setCell ⟨gb378, 0, none⟩ (.slice Ao12 t373.length co12))) ?hg ?ho ?hn ?hr ?_; (case ho => rfl); (case hg => rfl); (case hn => rfl); (case hr => first | (go_simp; done) | (go_simp; rfl)); intro w14 hw; have n0_ : zaa (Kd.S k40 40 w14 w.heap.size (fun k_ => some k_ ≠ (.slice Ao12 t373.length co12 : Value).ownBlock) (.slice Ao9 t370.length co9) t370) := ⟨(by rw [hw]; exact (by (with_reducible repeat (first | apply Kd.zbn | apply Kd.zbp | apply Kd.zbC)); exact Kd.zbt (Kd.S_far (p := ⟨gb378, 0, none⟩) (Kd.S_types HO372.out BK378.out (by decide)) (fun _ hk => hk.2) (.slice Ao12 t373.length co12)) (fun _ hk => hk.1.2)))⟩; have n1_ : zaa (Kd.S k40 40 w14 w.heap.size (fun k_ => some k_ ≠ (.slice Ao9 t370.length co9 : Value).ownBlock) (.slice Ao12 t373.length co12) t373) := ⟨(by rw [hw]; exact (by (with_reducible repeat (first | apply Kd.zbn | apply Kd.zbp | apply Kd.zbC)); exact Kd.zbt (Kd.S_far (p := ⟨gb378, 0, none⟩) (Kd.S_types HO375.out BK378.out (by decide)) (fun _ hk => hk.2) (.slice Ao12 t373.length co12)) (fun _ hk => hk.1.2)))⟩; have n2_ : zaa (w14.heap[gb378]? = some (.cells #[.slice Ao12 t373.length co12] 24 (0, 0))) := ⟨(by rw [hw]; exact (by (with_reducible repeat (first | refine zaj ?_ _ | refine zak ?_ | refine zai ?_ _)); refine zaP (cs := #[.slice none 0 0]) ?_ 0 _ rfl; (with_reducible repeat (first | refine zaj ?_ _ | refine zak ?_ | refine zai ?_ _)); exact BK378.out))⟩; have n3_ : zaa (Below w.heap.size w w14) := ⟨(by rw [hw]; exact (by repeat (first | (with_reducible first | exact HB.out | apply zad | apply zab | apply zae | refine zal ?_ GE378.out) | exact HB.out)))⟩; clear hw; clear HO372; clear HO375; clear BK378; clear HB; have HO372 := n0_; have HO375 := n1_; have BK378 := n2_; have HB := n3_; clear n0_ n1_ n2_ n3_) | ((with_reducible refine zaY (f := 15) rfl ?_); refine zbI (some 11) rfl rfl Tryz.func15 (by kernel_rfl) rfl #[.int .i64 t377] rfl (by (try simp only [List.map_toArray, List.map_cons, List.map_nil]); first | done | rfl | (simp only [List.length_drop, List.length_take]; rfl)) ?_; (with_reducible refine (za3.calls t377 t379 _ A3.out).mono ?_); rintro e w' ⟨rfl, ⟨nd, rfl⟩⟩; refine ⟨_, rfl, ?_⟩; have hcz15_0 : w14.cell? ⟨gb378, 0, none⟩ = some (.slice Ao12 t373.length co12) := (zac BK378.out 0).trans rfl; have hfz15_0 := zaf BK378.out 0; have p380 : 0 ≤ (1 : Int) := (by omega); have q380 : 1 < (t373.length : Int) := of_decide_eq_true (by first | (with_reducible assumption) | assumption); obtain ⟨ad380, A380_1, c380_1, A380_2, c380_2, e380, hx380_0, hx380_1, hx380_2, hx380_3, hx380_4, hx380_5, hl380_1, hi380_1, hl380_2, hi380_2⟩ := zbc (Kd.zbx HO375.out).2.2 1 p380 q380; cases e380; obtain ⟨ce380, hce380, hMe380, hcc380⟩ := Kd.S_get HO375.out z40 1 p380 (by first | exact q380 | exact of_decide_eq_true (by first | (with_reducible assumption) | assumption) | (have e_ := (Kd.zbx HO375.out).1; omega)); obtain ⟨ve380_1, ve380_2, rfl, ge380_1, ge380_2⟩ := zck hMe380; have hv380_1 := hcc380 1 _ rfl; rw [zbu _ _ 1 (by omega)] at hv380_1; replace hv380_1 := Option.some.inj (hv380_1.symm.trans hx380_1); rw [hv380_1] at ge380_1; have HL380_1 := zaa.mk (show Kd.R (Kd.int .u8) 5 _ _ _ _ ((zah t373 1).f1) from ge380_1); clear hv380_1 ge380_1; have hv380_2 := hcc380 2 _ rfl; rw [zbu _ _ 2 (by omega)] at hv380_2; replace hv380_2 := Option.some.inj (hv380_2.symm.trans hx380_2); rw [hv380_2] at ge380_2; have HL380_2 := zaa.mk (show Kd.R k50 50 _ _ _ _ ((zah t373 1).f2) from ge380_2); clear hv380_2 ge380_2; clear hcc380 hce380; (try simp only [show (1 : Int).toNat = 1 from rfl, Nat.reduceMul, Nat.reduceEqDiff, Go.Addr.add, ↓reduceIte] at hx380_0); (try simp only [show (1 : Int).toNat = 1 from rfl, Nat.reduceMul, Nat.reduceEqDiff, Go.Addr.add, ↓reduceIte] at hx380_1); (try simp only [show (1 : Int).toNat = 1 from rfl, Nat.reduceMul, Nat.reduceEqDiff, Go.Addr.add, ↓reduceIte] at hx380_2); (try simp only [show (1 : Int).toNat = 1 from rfl, Nat.reduceMul, Nat.reduceEqDiff, Go.Addr.add, ↓reduceIte] at hx380_3); (try simp only [show (1 : Int).toNat = 1 from rfl, Nat.reduceMul, Nat.reduceEqDiff, Go.Addr.add, ↓reduceIte] at hx380_4); (try simp only [show (1 : Int).toNat = 1 from rfl, Nat.reduceMul, Nat.reduceEqDiff, Go.Addr.add, ↓reduceIte] at hx380_5); have qi380 : (1 < t373.length) = True := eq_true (by omega); (try rw [show ((1 : Int)).toNat = 1 from rfl] at hx380_0); (try rw [show 1 * 6 = 6 from rfl] at hx380_0); (try rw [show ((1 : Int)).toNat = 1 from rfl] at hx380_1); (try rw [show 1 * 6 = 6 from rfl] at hx380_1); (try rw [show ((1 : Int)).toNat = 1 from rfl] at hx380_2); (try rw [show 1 * 6 = 6 from rfl] at hx380_2); (try rw [show ((1 : Int)).toNat = 1 from rfl] at hx380_3); (try rw [show 1 * 6 = 6 from rfl] at hx380_3); (try rw [show ((1 : Int)).toNat = 1 from rfl] at hx380_4); (try rw [show 1 * 6 = 6 from rfl] at hx380_4); (try rw [show ((1 : Int)).toNat = 1 from rfl] at hx380_5); (try rw [show 1 * 6 = 6 from rfl] at hx380_5); have HR380_1 := zaa.mk hi380_1; have HC380_1 := zaa.mk hl380_1; clear hi380_1 hl380_1; have HR380_2 := zaa.mk hi380_2; have HC380_2 := zaa.mk hl380_2; clear hi380_2 hl380_2; replace p380 := eq_true p380; replace q380 := eq_true q380))
     go_ret
     exact ⟨by first | rfl | (simp [zaw, zav] <;> rfl) | (simp [*, zaw, zav] <;> rfl), by repeat (first | (with_reducible first | exact HB.out | apply zad | apply zab | apply zae | refine zal ?_ GE378.out) | exact HB.out)⟩
    ·rw [if_neg c7] at H
     exact absurd H (by simp)
   ·rw [if_neg c6] at H
    have c6b0 : ((t373.length : Int) == 2) = false := beq_eq_false_iff_ne.mpr c6
    have c6b1 : ((t373.length : Int) != 2) = true := bne_iff_ne.mpr c6
    obtain rfl := Option.some.inj H
    go_enter Tryz.func20, Tryz.ntmps20
    go_wp2_with (first | ((with_reducible refine zaY (f := 18) rfl ?_); refine zbI (some 5) rfl rfl Tryz.func18 (by kernel_rfl) rfl #[] rfl (by (try simp only [List.map_toArray, List.map_cons, List.map_nil]); first | done | rfl | (simp only [List.length_drop, List.length_take]; rfl)) ?_; (with_reducible refine (tree_New.calls  t370 _ A1.out).mono ?_); rintro e w16 ⟨v371, rfl, ho0, hb⟩; refine ⟨_, rfl, ?_⟩; have n0_ := zaa.mk (Kd.zbD ho0 (zar (by repeat (first | (with_reducible first | exact HB.out | apply zad | apply zab | apply zae) | exact HB.out)))); have n1_ := zaa.mk (zam (by repeat (first | (with_reducible first | exact HB.out | apply zad | apply zab | apply zae) | exact HB.out)) hb); clear HB; have HO372 := n0_; have HB := n1_; clear n0_ n1_; (try clear hb); (try clear hb2); (try clear hk); (try clear hi); (try clear ho0); obtain ⟨Ao17, co17, eo17⟩ := Kd.zbG HO372.out; subst eo17) | ((with_reducible refine zaY (f := 54) rfl ?_); refine zbI (some 6) rfl rfl Tryz.func54 (by kernel_rfl) rfl #[.agg #[.slice Ao17 t370.length co17], .int .i64 0, .string (⟨#[97]⟩ : ByteArray), .int .i64 1, .string (⟨#[]⟩ : ByteArray), .int .i64 5] rfl (by (try simp only [List.map_toArray, List.map_cons, List.map_nil]); first | done | rfl | (simp only [List.length_drop, List.length_take]; rfl)) ?_; (with_reducible refine (zbL.calls k _ _ t370 0 (⟨#[97]⟩ : ByteArray) 1 (⟨#[]⟩ : ByteArray) 5 t373 t376 t377 _ ?side1 ?side2 A2.out).mono ?_); (case side1 => repeat (first | exact (Kd.zbx HO372.out).2.2 | (with_reducible refine Kd.C_alloc ?_ _) | (with_reducible refine Kd.C_drewN ?_ _) | (with_reducible refine Kd.C_drew ?_))); (case side2 => exact (Kd.zbx HO372.out).2.1); rintro e w18 ⟨v374, rfl, ho0, hb⟩; refine ⟨_, rfl, ?_⟩; have n0_ := zaa.mk (Kd.S_elder' (by (with_reducible repeat (first | apply Kd.zbn | apply Kd.zbp | apply Kd.zbC)); exact HO372.out) (Kd.S_base ho0) hb); have n1_ := zaa.mk (Kd.zbD (Kd.S_new' ho0 (Kd.S_lt (by (with_reducible repeat (first | apply Kd.zbn | apply Kd.zbp | apply Kd.zbC)); exact HO372.out))) (zar (by repeat (first | (with_reducible first | exact HB.out | apply zad | apply zab | apply zae) | exact HB.out)))); have n2_ := zaa.mk (zam (by repeat (first | (with_reducible first | exact HB.out | apply zad | apply zab | apply zae) | exact HB.out)) hb); clear HO372; clear HB; have HO372 := n0_; have HO375 := n1_; have HB := n2_; clear n0_ n1_ n2_; (try clear hb); (try clear hb2); (try clear hk); (try clear hi); (try clear ho0)) | ((with_reducible refine zaS (N := 1) rfl ?_); (try (refine zby (by rfl) ?_; dsimp only)); refine zaG ?hg (N := 1) ?hd (cs := #[.slice none 0 0]) (t := 24) ?hr ?_; (case hd => rfl); (case hg => rfl); (case hr => first | (go_simp; done) | (go_simp; rfl)); intro gb378 hg w19 hbox hb; have n0_ := zaa.mk (Kd.za4 (by (with_reducible repeat (first | apply Kd.zbn | apply Kd.zbp | apply Kd.zbC)); exact HO372.out) hb); have n1_ := zaa.mk (Kd.za4 (by (with_reducible repeat (first | apply Kd.zbn | apply Kd.zbp | apply Kd.zbC)); exact HO375.out) hb); have n2_ := zaa.mk (zam (by repeat (first | (with_reducible first | exact HB.out | apply zad | apply zab | apply zae) | exact HB.out)) hb); have n3_ := zaa.mk (hbox); have n4_ := zaa.mk ((by rw [hg]; exact (zar (by repeat (first | (with_reducible first | exact HB.out | apply zad | apply zab | apply zae) | exact HB.out))) : w.heap.size ≤ gb378)); have n5_ := zaa.mk ((by rw [hg]; exact (zar (by repeat (first | (with_reducible first | exact HB.out | apply zad | apply zab | apply zae) | exact HB.out))) : w.heap.size ≤ gb378)); clear HO372; clear HO375; clear HB; have HO372 := n0_; have HO375 := n1_; have HB := n2_; have BK378 := n3_; have GW378 := n4_; have GE378 := n5_; clear n0_ n1_ n2_ n3_ n4_ n5_; clear hb hbox hg; obtain ⟨Ao20, co20, eo20⟩ := Kd.zbG HO375.out; subst eo20; have hcz21_0 : w19.cell? ⟨gb378, 0, none⟩ = some (.slice none 0 0) := (zac BK378.out 0).trans rfl; have hfz21_0 := zaf BK378.out 0) | ((with_reducible refine zaY (f := 15) rfl ?_); refine zbI (some 11) rfl rfl Tryz.func15 (by kernel_rfl) rfl #[.int .i64 t377] rfl (by (try simp only [List.map_toArray, List.map_cons, List.map_nil]); first | done | rfl | (simp only [List.length_drop, List.length_take]; rfl)) ?_; (with_reducible refine (za3.calls t377 t379 _ A3.out).mono ?_); rintro e w' ⟨rfl, ⟨nd, rfl⟩⟩; refine ⟨_, rfl, ?_⟩))
    go_ret
    exact ⟨by first | rfl | (simp [zaw, zav] <;> rfl) | (simp [*, zaw, zav] <;> rfl), by repeat (first | (with_reducible first | exact HB.out | apply zad | apply zab | apply zae | refine zal ?_ GE378.out) | exact HB.out)⟩
  ·rw [if_neg c5] at H
   have c5b0 : (t376 == 1) = false := beq_eq_false_iff_ne.mpr c5
   have c5b1 : (t376 != 1) = true := bne_iff_ne.mpr c5
   obtain rfl := Option.some.inj H
   go_enter Tryz.func20, Tryz.ntmps20
   go_wp2_with (first | ((with_reducible refine zaY (f := 18) rfl ?_); refine zbI (some 5) rfl rfl Tryz.func18 (by kernel_rfl) rfl #[] rfl (by (try simp only [List.map_toArray, List.map_cons, List.map_nil]); first | done | rfl | (simp only [List.length_drop, List.length_take]; rfl)) ?_; (with_reducible refine (tree_New.calls  t370 _ A1.out).mono ?_); rintro e w22 ⟨v371, rfl, ho0, hb⟩; refine ⟨_, rfl, ?_⟩; have n0_ := zaa.mk (Kd.zbD ho0 (zar (by repeat (first | (with_reducible first | exact HB.out | apply zad | apply zab | apply zae) | exact HB.out)))); have n1_ := zaa.mk (zam (by repeat (first | (with_reducible first | exact HB.out | apply zad | apply zab | apply zae) | exact HB.out)) hb); clear HB; have HO372 := n0_; have HB := n1_; clear n0_ n1_; (try clear hb); (try clear hb2); (try clear hk); (try clear hi); (try clear ho0); obtain ⟨Ao23, co23, eo23⟩ := Kd.zbG HO372.out; subst eo23) | ((with_reducible refine zaY (f := 54) rfl ?_); refine zbI (some 6) rfl rfl Tryz.func54 (by kernel_rfl) rfl #[.agg #[.slice Ao23 t370.length co23], .int .i64 0, .string (⟨#[97]⟩ : ByteArray), .int .i64 1, .string (⟨#[]⟩ : ByteArray), .int .i64 5] rfl (by (try simp only [List.map_toArray, List.map_cons, List.map_nil]); first | done | rfl | (simp only [List.length_drop, List.length_take]; rfl)) ?_; (with_reducible refine (zbL.calls k _ _ t370 0 (⟨#[97]⟩ : ByteArray) 1 (⟨#[]⟩ : ByteArray) 5 t373 t376 t377 _ ?side1 ?side2 A2.out).mono ?_); (case side1 => repeat (first | exact (Kd.zbx HO372.out).2.2 | (with_reducible refine Kd.C_alloc ?_ _) | (with_reducible refine Kd.C_drewN ?_ _) | (with_reducible refine Kd.C_drew ?_))); (case side2 => exact (Kd.zbx HO372.out).2.1); rintro e w24 ⟨v374, rfl, ho0, hb⟩; refine ⟨_, rfl, ?_⟩; have n0_ := zaa.mk (Kd.S_elder' (by (with_reducible repeat (first | apply Kd.zbn | apply Kd.zbp | apply Kd.zbC)); exact HO372.out) (Kd.S_base ho0) hb); have n1_ := zaa.mk (Kd.zbD (Kd.S_new' ho0 (Kd.S_lt (by (with_reducible repeat (first | apply Kd.zbn | apply Kd.zbp | apply Kd.zbC)); exact HO372.out))) (zar (by repeat (first | (with_reducible first | exact HB.out | apply zad | apply zab | apply zae) | exact HB.out)))); have n2_ := zaa.mk (zam (by repeat (first | (with_reducible first | exact HB.out | apply zad | apply zab | apply zae) | exact HB.out)) hb); clear HO372; clear HB; have HO372 := n0_; have HO375 := n1_; have HB := n2_; clear n0_ n1_ n2_; (try clear hb); (try clear hb2); (try clear hk); (try clear hi); (try clear ho0)) | ((with_reducible refine zaS (N := 1) rfl ?_); (try (refine zby (by rfl) ?_; dsimp only)); refine zaG ?hg (N := 1) ?hd (cs := #[.slice none 0 0]) (t := 24) ?hr ?_; (case hd => rfl); (case hg => rfl); (case hr => first | (go_simp; done) | (go_simp; rfl)); intro gb378 hg w25 hbox hb; have n0_ := zaa.mk (Kd.za4 (by (with_reducible repeat (first | apply Kd.zbn | apply Kd.zbp | apply Kd.zbC)); exact HO372.out) hb); have n1_ := zaa.mk (Kd.za4 (by (with_reducible repeat (first | apply Kd.zbn | apply Kd.zbp | apply Kd.zbC)); exact HO375.out) hb); have n2_ := zaa.mk (zam (by repeat (first | (with_reducible first | exact HB.out | apply zad | apply zab | apply zae) | exact HB.out)) hb); have n3_ := zaa.mk (hbox); have n4_ := zaa.mk ((by rw [hg]; exact (zar (by repeat (first | (with_reducible first | exact HB.out | apply zad | apply zab | apply zae) | exact HB.out))) : w.heap.size ≤ gb378)); have n5_ := zaa.mk ((by rw [hg]; exact (zar (by repeat (first | (with_reducible first | exact HB.out | apply zad | apply zab | apply zae) | exact HB.out))) : w.heap.size ≤ gb378)); clear HO372; clear HO375; clear HB; have HO372 := n0_; have HO375 := n1_; have HB := n2_; have BK378 := n3_; have GW378 := n4_; have GE378 := n5_; clear n0_ n1_ n2_ n3_ n4_ n5_; clear hb hbox hg; obtain ⟨Ao26, co26, eo26⟩ := Kd.zbG HO375.out; subst eo26; have hcz27_0 : w25.cell? ⟨gb378, 0, none⟩ = some (.slice none 0 0) := (zac BK378.out 0).trans rfl; have hfz27_0 := zaf BK378.out 0) | ((with_reducible refine zaY (f := 15) rfl ?_); refine zbI (some 11) rfl rfl Tryz.func15 (by kernel_rfl) rfl #[.int .i64 t377] rfl (by (try simp only [List.map_toArray, List.map_cons, List.map_nil]); first | done | rfl | (simp only [List.length_drop, List.length_take]; rfl)) ?_; (with_reducible refine (za3.calls t377 t379 _ A3.out).mono ?_); rintro e w' ⟨rfl, ⟨nd, rfl⟩⟩; refine ⟨_, rfl, ?_⟩))
   go_ret
   exact ⟨by first | rfl | (simp [zaw, zav] <;> rfl) | (simp [*, zaw, zav] <;> rfl), by repeat (first | (with_reducible first | exact HB.out | apply zad | apply zab | apply zae | refine zal ?_ GE378.out) | exact HB.out)⟩
 ·rw [if_neg c4] at H
  have c4b0 : (t379 == 0) = false := beq_eq_false_iff_ne.mpr c4
  have c4b1 : (t379 != 0) = true := bne_iff_ne.mpr c4
  obtain rfl := Option.some.inj H
  go_enter Tryz.func20, Tryz.ntmps20
  go_wp2_with (first | ((with_reducible refine zaY (f := 18) rfl ?_); refine zbI (some 5) rfl rfl Tryz.func18 (by kernel_rfl) rfl #[] rfl (by (try simp only [List.map_toArray, List.map_cons, List.map_nil]); first | done | rfl | (simp only [List.length_drop, List.length_take]; rfl)) ?_; (with_reducible refine (tree_New.calls  t370 _ A1.out).mono ?_); rintro e w28 ⟨v371, rfl, ho0, hb⟩; refine ⟨_, rfl, ?_⟩; have n0_ := zaa.mk (Kd.zbD ho0 (zar (by repeat (first | (with_reducible first | exact HB.out | apply zad | apply zab | apply zae) | exact HB.out)))); have n1_ := zaa.mk (zam (by repeat (first | (with_reducible first | exact HB.out | apply zad | apply zab | apply zae) | exact HB.out)) hb); clear HB; have HO372 := n0_; have HB := n1_; clear n0_ n1_; (try clear hb); (try clear hb2); (try clear hk); (try clear hi); (try clear ho0); obtain ⟨Ao29, co29, eo29⟩ := Kd.zbG HO372.out; subst eo29) | ((with_reducible refine zaY (f := 54) rfl ?_); refine zbI (some 6) rfl rfl Tryz.func54 (by kernel_rfl) rfl #[.agg #[.slice Ao29 t370.length co29], .int .i64 0, .string (⟨#[97]⟩ : ByteArray), .int .i64 1, .string (⟨#[]⟩ : ByteArray), .int .i64 5] rfl (by (try simp only [List.map_toArray, List.map_cons, List.map_nil]); first | done | rfl | (simp only [List.length_drop, List.length_take]; rfl)) ?_; (with_reducible refine (zbL.calls k _ _ t370 0 (⟨#[97]⟩ : ByteArray) 1 (⟨#[]⟩ : ByteArray) 5 t373 t376 t377 _ ?side1 ?side2 A2.out).mono ?_); (case side1 => repeat (first | exact (Kd.zbx HO372.out).2.2 | (with_reducible refine Kd.C_alloc ?_ _) | (with_reducible refine Kd.C_drewN ?_ _) | (with_reducible refine Kd.C_drew ?_))); (case side2 => exact (Kd.zbx HO372.out).2.1); rintro e w30 ⟨v374, rfl, ho0, hb⟩; refine ⟨_, rfl, ?_⟩; have n0_ := zaa.mk (Kd.S_elder' (by (with_reducible repeat (first | apply Kd.zbn | apply Kd.zbp | apply Kd.zbC)); exact HO372.out) (Kd.S_base ho0) hb); have n1_ := zaa.mk (Kd.zbD (Kd.S_new' ho0 (Kd.S_lt (by (with_reducible repeat (first | apply Kd.zbn | apply Kd.zbp | apply Kd.zbC)); exact HO372.out))) (zar (by repeat (first | (with_reducible first | exact HB.out | apply zad | apply zab | apply zae) | exact HB.out)))); have n2_ := zaa.mk (zam (by repeat (first | (with_reducible first | exact HB.out | apply zad | apply zab | apply zae) | exact HB.out)) hb); clear HO372; clear HB; have HO372 := n0_; have HO375 := n1_; have HB := n2_; clear n0_ n1_ n2_; (try clear hb); (try clear hb2); (try clear hk); (try clear hi); (try clear ho0)) | ((with_reducible refine zaS (N := 1) rfl ?_); (try (refine zby (by rfl) ?_; dsimp only)); refine zaG ?hg (N := 1) ?hd (cs := #[.slice none 0 0]) (t := 24) ?hr ?_; (case hd => rfl); (case hg => rfl); (case hr => first | (go_simp; done) | (go_simp; rfl)); intro gb378 hg w31 hbox hb; have n0_ := zaa.mk (Kd.za4 (by (with_reducible repeat (first | apply Kd.zbn | apply Kd.zbp | apply Kd.zbC)); exact HO372.out) hb); have n1_ := zaa.mk (Kd.za4 (by (with_reducible repeat (first | apply Kd.zbn | apply Kd.zbp | apply Kd.zbC)); exact HO375.out) hb); have n2_ := zaa.mk (zam (by repeat (first | (with_reducible first | exact HB.out | apply zad | apply zab | apply zae) | exact HB.out)) hb); have n3_ := zaa.mk (hbox); have n4_ := zaa.mk ((by rw [hg]; exact (zar (by repeat (first | (with_reducible first | exact HB.out | apply zad | apply zab | apply zae) | exact HB.out))) : w.heap.size ≤ gb378)); have n5_ := zaa.mk ((by rw [hg]; exact (zar (by repeat (first | (with_reducible first | exact HB.out | apply zad | apply zab | apply zae) | exact HB.out))) : w.heap.size ≤ gb378)); clear HO372; clear HO375; clear HB; have HO372 := n0_; have HO375 := n1_; have HB := n2_; have BK378 := n3_; have GW378 := n4_; have GE378 := n5_; clear n0_ n1_ n2_ n3_ n4_ n5_; clear hb hbox hg; obtain ⟨Ao32, co32, eo32⟩ := Kd.zbG HO375.out; subst eo32; have hcz33_0 : w31.cell? ⟨gb378, 0, none⟩ = some (.slice none 0 0) := (zac BK378.out 0).trans rfl; have hfz33_0 := zaf BK378.out 0) | ((with_reducible refine zaY (f := 15) rfl ?_); refine zbI (some 11) rfl rfl Tryz.func15 (by kernel_rfl) rfl #[.int .i64 t377] rfl (by (try simp only [List.map_toArray, List.map_cons, List.map_nil]); first | done | rfl | (simp only [List.length_drop, List.length_take]; rfl)) ?_; (with_reducible refine (za3.calls t377 t379 _ A3.out).mono ?_); rintro e w' ⟨rfl, ⟨nd, rfl⟩⟩; refine ⟨_, rfl, ?_⟩))
  go_ret
  exact ⟨by first | rfl | (simp [zaw, zav] <;> rfl) | (simp [*, zaw, zav] <;> rfl), by repeat (first | (with_reducible first | exact HB.out | apply zad | apply zab | apply zae | refine zal ?_ GE378.out) | exact HB.out)⟩
theorem fits_of {l : List S40} (h : ok24 l) : l.length < 1599289640401 ∧ Fits l := by
 obtain ⟨h1, h2, h3⟩ := h
 refine ⟨by omega, fun x hx => ?_⟩
 obtain ⟨_, ⟨_, a1, _⟩, ⟨_, a2, a3⟩, a4, _⟩ := h3 x hx
 exact ⟨⟨by omega, by omega⟩, fun z hz => by have := (a3 z hz).1; omega, by omega⟩
theorem Fits.n {l : List S40} (h : Fits l) : ∀ x ∈ l, FitsN x := fun x hx => (h x hx).1
theorem large_l0 (l : List S40) (hm : l.length < 9223372036854775807) : ∀ (d i : Nat) (n : Int), i + d = l.length → ∃ b, Ev (fun k => zaJ.l0 k n (i : Int) l) b
 | 0, i, n, h => ⟨_, Ev.step (f := fun _ => some (decide (n > 60000))) (fun k => by rw [zaJ.l0, if_neg (by omega)]) (Ev.now _)⟩
 | d + 1, i, n, h => by
  obtain ⟨b, hb⟩ := large_l0 l hm d (i + 1) (wrap64 ((wrap64 ((wrap64 (n + (wrap64 (30 * (((zah l (i : Int)).f2).length : Int))))) + (((zah l (i : Int)).f1).length : Int))) + (((zah l (i : Int)).f3).size : Int))) (by omega)
  refine ⟨b, Ev.step (fun k => ?_) hb⟩
  rw [zaJ.l0, if_pos (by omega), if_pos (by omega), up64 (by omega)]
theorem large_ev (l : List S40) (hm : l.length < 9223372036854775807) : ∃ b, Ev (fun k => zaJ.f k l) b ∧ (b = false → l.length ≤ 100) := by
 by_cases h : (l.length : Int) > 100
 ·exact ⟨true, Ev.congr (fun k => by unfold zaJ.f; rw [if_pos h]) (Ev.now true), fun h => by (cases h)⟩
 ·obtain ⟨b, hb⟩ := large_l0 l hm l.length 0 0 (by omega)
  exact ⟨b, Ev.congr (fun k => by unfold zaJ.f; rw [if_neg h]; rfl) hb, fun _ => by omega⟩
theorem heavy_l0 (l : List S40) (hm : l.length < 9223372036854775807) (q : List S44) (hq : q.length < 9223372036854775807) : ∀ (d i : Nat) (n : Int), i + d = q.length → ∃ b, Ev (fun k => zaV.l0 k n (i : Int) l q) b ∧ (b = false → l.length ≤ 100) := by
 obtain ⟨b, hb, hb2⟩ := large_ev l hm
 have fin : ∀ n : Int, ∃ b', Ev (fun k => if n > 40000 then some true else (zaJ.f k l).bind fun t => some t) b' ∧ (b' = false → l.length ≤ 100) := fun n => by
  by_cases h : n > 40000
  ·exact ⟨true, Ev.congr (fun k => if_pos h) (Ev.now true), fun h => by (cases h)⟩
  ·exact ⟨b, Ev.congr (fun k => if_neg h) (Ev.bind (f := fun _ t => some t) hb (Ev.now b)), hb2⟩
 intro d
 induction d with
 | zero =>
  intro i n h
  obtain ⟨b', h1, h2⟩ := fin n
  exact ⟨b', Ev.step (fun k => by rw [zaV.l0, if_neg (by omega)]) h1, h2⟩
 | succ d ih =>
  intro i n h
  by_cases h14 : (i : Int) < 14
  ·obtain ⟨b', h1, h2⟩ := ih (i + 1) (wrap64 ((wrap64 ((wrap64 (n + (((zaU q (i : Int)).f10).length : Int))) + (((zaU q (i : Int)).f4).size : Int))) + (((zaU q (i : Int)).f5).size : Int))) (by omega)
   exact ⟨b', Ev.step (fun k => by rw [zaV.l0, if_pos (by omega), if_pos h14, if_pos (by omega), up64 (by omega)]) h1, h2⟩
  ·obtain ⟨b', h1, h2⟩ := fin n
   exact ⟨b', Ev.step (fun k => by rw [zaV.l0, if_pos (by omega), if_neg h14]) h1, h2⟩
theorem heavy_ev (l : List S40) (hm : l.length < 9223372036854775807) (q : List S44) (hq : q.length < 9223372036854775807) : ∃ b, Ev (fun k => zaV.f k l q) b ∧ (b = false → l.length ≤ 100) := heavy_l0 l hm q hq q.length 0 0 (by omega)
theorem wakes_70 : za2.f 70 = some true := by kernel_rfl
theorem wakes_ev : Ev (fun k => za2.f k) true := Ev.of (fun k => za2.mono k) wakes_70
theorem ev_all {P : Nat → Nat → Prop} (hm : ∀ i, ∃ K, ∀ k, K ≤ k → P i k) : ∀ n : Nat, ∃ K, ∀ k, K ≤ k → ∀ i, i < n → P i k
 | 0 => ⟨0, fun _ _ i h => by omega⟩
 | n + 1 => by
  obtain ⟨K, hK⟩ := ev_all hm n
  obtain ⟨K', hK'⟩ := hm n
  refine ⟨max K K', fun k hk i hi => ?_⟩
  by_cases e : i = n
  ·subst e; exact hK' k (by omega)
  ·exact hK k (by omega) i (by omega)
theorem own_l0 (l : List S40) (hm : l.length < 1599289640401) (hf : ∀ x ∈ l, FitsN x) : ∀ (d i : Nat), i + d = l.length → Ev (fun k => zaZ.l0 k l (l.length : Int) (i : Int) (l.take i)) l
 | 0, i, h => Ev.step (f := fun _ => some l) (fun k => by rw [zaZ.l0, if_neg (by omega), List.take_of_length_le (by omega)]) (Ev.now l)
 | d + 1, i, h => by
  have hi : i < l.length := by omega
  have hx : FitsN (zah l (i : Int)) := by rw [zcd l i hi]; exact hf _ (List.getElem_mem _)
  refine Ev.step (fun k => ?_) (own_l0 l hm hf d (i + 1) (by omega))
  rw [zaZ.l0, if_pos (by omega), if_pos (by omega), if_pos (by omega), if_pos (by have := hx.1; simpa using this), if_pos (by have := hx.2; simpa using this), if_pos (by rw [List.length_take]; omega), up64 (by omega), zcd l i hi]
  show zaZ.l0 k l _ _ (l.take i ++ [l[i]]) = _
  rw [take_next l i hi]
theorem own_ev (l : List S40) (hm : l.length < 1599289640401) (hf : ∀ x ∈ l, FitsN x) : Ev (fun k => zaZ.f k l) l := own_l0 l hm hf l.length 0 (by omega)
theorem mayN_ev {l : List S40} {m : Bool} (h : Ev (fun k => zaH.f k l) m) (ns : List Int) : Ev (fun k => zbv.f k l ns) (m && ns.all fun n => hasB l n) := by
 unfold zbv.f
 refine Ev.bind (f := fun _ t => if t = true then some (ns.all fun n => hasB l n) else some false) h ?_
 cases m with
 | true => exact Ev.congr (fun _ => if_pos rfl) (by simpa using Ev.now _)
 | false => exact Ev.congr (fun _ => if_neg (by simp)) (Ev.now _)
theorem bad_ev {l : List S40} (hl : l.length < 1599289640401) (hf : ∀ x ∈ l, FitsN x) (e : Int) (h : e = 100 → Ev (fun k => zaH.f k l) true) : Ev (fun k => zbw.f k l e) (l, e) := by
 have ho := own_ev l hl hf
 unfold zbw.f
 by_cases h1 : e = 100
 ·refine Ev.congr (fun k => if_pos h1) (Ev.bind (f := fun k t => if t = true then ((zaZ.f k l).bind fun t => some (t, e)) else some ([], e)) (h h1) (Ev.congr (fun k => if_pos rfl) ?_))
  exact Ev.bind (f := fun _ t => some (t, e)) ho (Ev.now _)
 ·exact Ev.congr (fun k => if_neg h1) (Ev.bind (f := fun _ t => some (t, e)) ho (Ev.now _))
theorem bad_not {l : List S40} (h : Ev (fun k => zaH.f k l) false) : Ev (fun k => zbw.f k l 100) ([], 100) := by
 unfold zbw.f
 exact Ev.congr (fun k => if_pos rfl) (Ev.bind (f := fun k t => if t = true then ((zaZ.f k l).bind fun t => some (t, (100 : Int))) else some ([], 100)) h (Ev.congr (fun k => if_neg (by simp)) (Ev.now _)))
theorem headB_parts {l : List S40} (h : Ev (fun k => zaH.f k l) true) : zbK l = true := by
 obtain ⟨K, hK⟩ := h
 have h1 : zaH.f K l = some true := hK K (Nat.le_refl _)
 unfold zaH.f at h1
 by_cases hh : zbK l = true
 ·exact hh
 ·rw [if_neg hh] at h1; cases h1
structure SimN (x y : S40) : Prop where
 k : x.f0 = y.f0
 n : x.f2 = y.f2
 l : x.f4 = y.f4
structure Sim (l l' : List S40) : Prop where
 len : l.length = l'.length
 at_ : ∀ i : Int, SimN (zah l i) (zah l' i)
theorem Sim.symm {l l' : List S40} (h : Sim l l') : Sim l' l := ⟨h.len.symm, fun i => ⟨(h.at_ i).k.symm, (h.at_ i).n.symm, (h.at_ i).l.symm⟩⟩
theorem Sim.reach {l l' : List S40} (h : Sim l l') {i : Nat} (hr : Reach l i) : Reach l' i := by
 induction hr with
 | root => exact .root
 | step _ hn hx hd ih => exact .step ih (by rw [← h.len]; exact hn) (by rw [← (h.at_ _).n]; exact hx) (by rw [← (h.at_ _).k]; exact hd)
theorem Sim.bumps_ {l l' : List S40} (h : Sim l l') : ∀ (d i : Nat) (c : List Int), bumps l d i c = bumps l' d i c
 | 0, _, _ => rfl
 | d + 1, i, c => by show bumps l d (i + 1) _ = bumps l' d (i + 1) _; rw [(h.at_ _).n]; exact Sim.bumps_ h d (i + 1) _
theorem Sim.nameIn {l l' : List S40} (h : Sim l l') {x : S50} (hx : zbJ l x) : zbJ l' x := ⟨hx.1, by rw [← h.len]; exact hx.2.1, by rw [← (h.at_ _).k]; exact hx.2.2⟩
theorem Sim.head {l l' : List S40} (h : Sim l l') : zbK l = zbK l' := by
 unfold zbK; rw [h.len, (h.at_ _).k, (h.at_ _).k, (h.at_ _).l]
theorem nodes_iff (l : List S40) (hf : Fits l) : nodesB l l.length = true ↔ ∀ j, j < l.length → zb6 (zah l (j : Int)) ∧ ∀ x ∈ (zah l (j : Int)).f2, zbJ l x := by
 unfold nodesB
 rw [List.all_eq_true]
 constructor
 ·intro h j hj
  have h1 := (tree_node_ok l _ (fits_at hf j hj).1).1 (h j (List.mem_range.2 hj))
  refine ⟨h1.1, ?_⟩
  by_cases hk : (zah l (j : Int)).f0 = 2
  ·exact names_mem.2 (h1.2.2 hk)
  ·have : (zah l (j : Int)).f2 = [] := by
    rcases h1.1 with h | h | h | h
    ·rw [h.2]; rfl
    ·exact h.2.2.2.1
    ·exact absurd h.1 hk
    ·exact h.2.2.2.2.2.2
   rw [this]; simp
 ·intro h j hj
  have hj := List.mem_range.1 hj
  exact (tree_node_ok l _ (fits_at hf j hj).1).2 ⟨(h j hj).1, fun _ => trivial, fun _ => names_mem.1 (h j hj).2⟩
theorem may_last (l : List S40) (hf : Fits l) (hh : zbK l = true) (hA : ∀ j, j < l.length → zb6 (zah l (j : Int)) ∧ ∀ x ∈ (zah l (j : Int)).f2, zbJ l x) :
  ∃ R, (∀ i, on R i = true ↔ Reach l i) ∧ Ev (fun k => zaH.f k l) (lastB l (bumps l l.length 0 (List.replicate l.length 0)) R l.length) := by
 obtain ⟨h0, hl, hk0, hl0⟩ := head_parts hh
 have hr : InRange l := fun n hn x hx => by have := (hA n hn).2 x hx; exact ⟨by have := this.1; omega, this.2.1⟩
 obtain ⟨R, hR, hRl, hRs⟩ := reached_tree l h0 hl hk0 hr
 have hRe : Ev (fun k => zaz.f k l) R := Ev.of (fun k => zaz.mono _ _) hR
 have hLe := links_ev l hl hf hr
 exact ⟨R, hRs, Ev.congr (fun k => by unfold zaH.f; rw [if_pos hh, if_pos ((nodes_iff l hf).2 hA)]) (Ev.bind (f := fun k L => (zaz.f k l).bind fun R => if L.length = l.length ∧ R.length = l.length then some (lastB l L R l.length) else none) hLe (Ev.bind (f := fun _ R => if (bumps l l.length 0 (List.replicate l.length 0)).length = l.length ∧ R.length = l.length then some (lastB l (bumps l l.length 0 (List.replicate l.length 0)) R l.length) else none) hRe (Ev.congr (fun _ => if_pos ⟨by rw [bumps_len, List.length_replicate], hRl⟩) (Ev.now _))))⟩
theorem may_nodes {l : List S40} (hf : Fits l) (h : Ev (fun k => zaH.f k l) true) : ∀ j, j < l.length → zb6 (zah l (j : Int)) ∧ ∀ x ∈ (zah l (j : Int)).f2, zbJ l x := by
 refine (nodes_iff l hf).1 ?_
 have hh := headB_parts h
 obtain ⟨K, hK⟩ := h
 have h1 : zaH.f K l = some true := hK K (Nat.le_refl _)
 unfold zaH.f at h1
 rw [if_pos hh] at h1
 by_cases hn : nodesB l l.length = true
 ·exact hn
 ·rw [if_neg hn] at h1; cases h1
theorem may_sim {l l' : List S40} (hf : Fits l) (hf' : Fits l') (hs : Sim l l') (h : Ev (fun k => zaH.f k l) true) (hN : ∀ j, j < l.length → zb6 (zah l' (j : Int))) : Ev (fun k => zaH.f k l') true := by
 have hh := headB_parts h
 have hA := may_nodes hf h
 obtain ⟨R, hR, hE⟩ := may_last l hf hh hA
 have hA' : ∀ j, j < l'.length → zb6 (zah l' (j : Int)) ∧ ∀ x ∈ (zah l' (j : Int)).f2, zbJ l' x := fun j hj => by
  rw [← hs.len] at hj
  exact ⟨hN j hj, fun x hx => hs.nameIn ((hA j hj).2 x (by rw [(hs.at_ _).n]; exact hx))⟩
 obtain ⟨R', hR', hE'⟩ := may_last l' hf' (hs.head ▸ hh) hA'
 have hlt : lastB l (bumps l l.length 0 (List.replicate l.length 0)) R l.length = true := Ev.one hE h
 have e : lastB l' (bumps l' l'.length 0 (List.replicate l'.length 0)) R' l'.length = true := by
  rw [← hlt, ← hs.len, ← hs.bumps_]
  unfold lastB
  congr 1
  funext i
  have hRR : rdOf false R' (i : Int) = rdOf false R (i : Int) := Bool.eq_iff_iff.2 ((hR' i).trans (Iff.trans ⟨hs.symm.reach, hs.reach⟩ (hR i).symm))
  unfold zbg
  rw [hRR, (hs.at_ _).k, (hs.at_ _).n, (hs.at_ _).l]
 rw [← e]; exact hE'
theorem may_data {l : List S40} (hf : Fits l) (h : Ev (fun k => zaH.f k l) true) (n : Nat) (hn : n < l.length) (hk : (zah l (n : Int)).f0 = 1) (d : List Int) (hd : d.length ≤ 16384) (t : Int) (ht : TimeP t) :
  Fits (l.set n { zah l (n : Int) with f1 := d, f5 := t }) ∧ Ev (fun k => zaH.f k (l.set n { zah l (n : Int) with f1 := d, f5 := t })) true := by
 have hx := fits_at hf n hn
 have hrd : ∀ j : Nat, zah (l.set n { zah l (n : Int) with f1 := d, f5 := t }) (j : Int) = if n = j then { zah l (n : Int) with f1 := d, f5 := t } else zah l (j : Int) := fun j => by
  show (l.set n _).getD (j : Int).toNat _ = if n = j then _ else l.getD (j : Int).toNat _
  rw [Int.toNat_natCast, List.getD_eq_getElem?_getD, List.getD_eq_getElem?_getD, List.getElem?_set]
  by_cases e : n = j
  ·subst e; simp [hn]
  ·rw [if_neg e, if_neg e]
 have hff : Fits (l.set n { zah l (n : Int) with f1 := d, f5 := t }) := fun x hm => by
  rcases List.mem_or_eq_of_mem_set hm with h | h
  ·exact hf x h
  ·subst h; exact ⟨⟨by show d.length < _; omega, hx.1.2⟩, hx.2.1, hx.2.2⟩
 refine ⟨hff, may_sim hf hff ⟨by simp, fun i => ?_⟩ h fun j hj => ?_⟩
 ·have hi : ∀ l : List S40, zah l i = zah l (i.toNat : Int) := fun l => by unfold zah; rw [Int.toNat_natCast]
  rw [hi l, hi (l.set _ _), hrd]
  by_cases e : n = i.toNat
  ·rw [if_pos e, ← e]; exact ⟨rfl, rfl, rfl⟩
  ·rw [if_neg e]; exact ⟨rfl, rfl, rfl⟩
 ·rw [hrd]
  by_cases e : n = j
  ·rw [if_pos e]
   rcases (may_nodes hf h n hn).1 with q | q | q | q
   ·rw [hk] at q; exact absurd q.1 (by decide)
   ·exact .inr (.inl ⟨q.1, ht, hd, q.2.2.2⟩)
   ·rw [hk] at q; exact absurd q.1 (by decide)
   ·rw [hk] at q; exact absurd q.1 (by decide)
  ·rw [if_neg e]; exact (may_nodes hf h j hj).1
theorem bL_irr : ∀ a : List UInt8, Op.bytesLess a a = false
 | [] => by simp [Op.bytesLess]
 | a :: l => by simp [Op.bytesLess, bL_irr l]
theorem bL_trans : ∀ {a b c : List UInt8}, Op.bytesLess a b = true → Op.bytesLess b c = true → Op.bytesLess a c = true
 | [], [], _, h, _ => by simp [Op.bytesLess] at h
 | _ :: _, [], _, h, _ => by simp [Op.bytesLess] at h
 | _, _ :: _, [], _, h => by simp [Op.bytesLess] at h
 | [], _ :: _, _ :: _, _, _ => by simp [Op.bytesLess]
 | a :: x, b :: y, c :: z, h, h' => by
  simp only [Op.bytesLess, Bool.or_eq_true, decide_eq_true_eq, Bool.and_eq_true, beq_iff_eq] at h h' ⊢
  rcases h with h | ⟨rfl, h⟩ <;> rcases h' with h' | ⟨rfl, h'⟩
  ·exact .inl (UInt8.lt_trans h h')
  ·exact .inl h
  ·exact .inl h'
  ·exact .inr ⟨rfl, bL_trans h h'⟩
theorem cmpB_lt : ∀ a b : List UInt8, Lib.compareBytes a b < 0 ↔ Op.bytesLess a b = true
 | [], [] => by simp [Op.bytesLess, Lib.compareBytes]
 | _ :: _, [] => by simp [Op.bytesLess, Lib.compareBytes]
 | [], _ :: _ => by simp [Op.bytesLess, Lib.compareBytes]
 | a :: x, b :: y => by
  simp only [Op.bytesLess, Lib.compareBytes, Bool.or_eq_true, decide_eq_true_eq, Bool.and_eq_true, beq_iff_eq]
  by_cases h : a < b
  ·rw [if_pos h]; exact ⟨fun _ => .inl h, fun _ => by decide⟩
  ·rw [if_neg h]
   by_cases h' : b < a
   ·rw [if_pos h']
    exact ⟨fun q => absurd q (by decide), fun q => by
     rcases q with q | ⟨rfl, _⟩
     ·exact absurd q h
     ·exact absurd h' h⟩
   ·rw [if_neg h', cmpB_lt x y]
    have e : a = b := UInt8.le_antisymm (UInt8.not_lt.1 h') (UInt8.not_lt.1 h)
    exact ⟨fun q => .inr ⟨e, q⟩, fun q => q.elim (fun q => absurd q h) And.right⟩
theorem cmpB_eq : ∀ a b : List UInt8, Lib.compareBytes a b = 0 ↔ a = b
 | [], [] => by simp [Lib.compareBytes]
 | _ :: _, [] => by simp [Lib.compareBytes]
 | [], _ :: _ => by simp [Lib.compareBytes]
 | a :: x, b :: y => by
  simp only [Lib.compareBytes, List.cons.injEq]
  by_cases h : a < b
  ·rw [if_pos h]; exact ⟨fun q => absurd q (by decide), fun q => by obtain ⟨rfl, _⟩ := q; exact absurd h (UInt8.lt_irrefl a)⟩
  ·rw [if_neg h]
   by_cases h' : b < a
   ·rw [if_pos h']; exact ⟨fun q => absurd q (by decide), fun q => by obtain ⟨rfl, _⟩ := q; exact absurd h' (UInt8.lt_irrefl a)⟩
   ·rw [if_neg h', cmpB_eq x y]
    have e : a = b := UInt8.le_antisymm (UInt8.not_lt.1 h') (UInt8.not_lt.1 h)
    exact ⟨fun q => ⟨e, q⟩, And.right⟩
theorem cmpB_swap : ∀ a b : List UInt8, ¬ Lib.compareBytes a b < 0 → Lib.compareBytes a b ≠ 0 → Lib.compareBytes b a < 0
 | [], [], _, h => absurd rfl h
 | _ :: _, [], _, _ => by simp [Lib.compareBytes]
 | [], _ :: _, h, _ => by simp [Lib.compareBytes] at h
 | a :: x, b :: y, h, h2 => by
  simp only [Lib.compareBytes] at h h2 ⊢
  by_cases q : a < b
  ·rw [if_pos q] at h; exact absurd (by decide) h
  ·rw [if_neg q] at h h2
   by_cases q' : b < a
   ·rw [if_pos q']; decide
   ·rw [if_neg q'] at h h2 ⊢
    rw [if_neg q]
    exact cmpB_swap x y h h2
def ltN (x : S50) (s : ByteArray) : Prop := Op.bytesLess x.f0.toList s.toList = true
theorem cmpN_lt (x : S50) (s : ByteArray) : cmpN x s < 0 ↔ ltN x s := by
 unfold cmpN ltN; rw [cmpB_lt, ByteArray.toList_eq, ByteArray.toList_eq]
theorem cmpN_eq (x : S50) (s : ByteArray) : cmpN x s = 0 ↔ x.f0 = s := by
 unfold cmpN; rw [cmpB_eq, ← ByteArray.toList_eq, ← ByteArray.toList_eq, bytes_eq]
def Sorted (ns : List S50) : Prop := ns.Pairwise fun x y => ltN x y.f0
theorem ltN_trans {x y : S50} {s : ByteArray} (h : ltN x y.f0) (h' : ltN y s) : ltN x s := bL_trans h h'
theorem ltN_irr (x : S50) : ¬ ltN x x.f0 := fun h => by unfold ltN at h; rw [bL_irr] at h; cases h
theorem okR_iff (ns : List S50) : (∀ i, i < ns.length → okR ns i) ↔ (∀ x ∈ ns, nameP x.f0 = 0) ∧ Sorted ns := by
 constructor
 ·intro h
  refine ⟨fun x hx => ?_, ?_⟩
  ·obtain ⟨i, hi, rfl⟩ := List.getElem_of_mem hx
   rw [← zbY ns i hi]; exact (h i hi).1
  ·rw [Sorted, List.pairwise_iff_getElem]
   have key : ∀ d i (hi : i < ns.length) (hj : i + d + 1 < ns.length), ltN ns[i] (ns[i + d + 1]).f0 := by
    intro d
    induction d with
    | zero =>
     intro i hi hj
     have := ((h (i + 1) hj).2).resolve_left (by omega)
     rw [zbY ns (i + 1) hj, show ((i + 1 : Nat) : Int) - 1 = (i : Int) by omega, zbY ns i hi] at this
     exact this
    | succ d ih =>
     intro i hi hj
     have h1 := ih i hi (by omega)
     have := ((h (i + d + 1 + 1) (by omega)).2).resolve_left (by omega)
     rw [zbY ns (i + d + 1 + 1) (by omega), show ((i + d + 1 + 1 : Nat) : Int) - 1 = ((i + d + 1 : Nat) : Int) by omega, zbY ns (i + d + 1) (by omega)] at this
     exact ltN_trans h1 this
   intro i j hi hj hij
   obtain ⟨d, rfl⟩ : ∃ d, j = i + d + 1 := ⟨j - i - 1, by omega⟩
   exact key d i hi hj
 ·rintro ⟨h1, h2⟩ i hi
  refine ⟨by rw [zbY ns i hi]; exact h1 _ (List.getElem_mem _), ?_⟩
  by_cases e : i = 0
  ·exact .inl e
  ·refine .inr ?_
   rw [Sorted, List.pairwise_iff_getElem] at h2
   have := h2 (i - 1) i (by omega) hi (by omega)
   rw [zbY ns i hi, show (i : Int) - 1 = ((i - 1 : Nat) : Int) by omega, zbY ns (i - 1) (by omega)]
   exact this
structure Split (ns : List S50) (s : ByteArray) (A B : List S50) : Prop where
 eq : ns = A ++ B
 lo : ∀ x ∈ A, ltN x s
 hi : ∀ x ∈ B, ¬ ltN x s
theorem bsF_spec (ns : List S50) (hs : Sorted ns) (s : ByteArray) : ∀ (k i j : Nat), j - i < k → i ≤ j → j ≤ ns.length → (∀ m (h : m < ns.length), m < i → ltN ns[m] s) → (∀ m (h : m < ns.length), j ≤ m → ¬ ltN ns[m] s) →
  bsF k ns s i j ≤ ns.length ∧ (∀ m (h : m < ns.length), m < bsF k ns s i j → ltN ns[m] s) ∧ (∀ m (h : m < ns.length), bsF k ns s i j ≤ m → ¬ ltN ns[m] s)
 | 0, i, j, hk, _, _, _, _ => by omega
 | k + 1, i, j, hk, hij, hj, h1, h2 => by
  unfold bsF
  by_cases e : i < j
  ·rw [if_pos e]
   have hm : (i + j) / 2 < ns.length := by omega
   have hsx := List.pairwise_iff_getElem.1 hs
   by_cases c : cmpN (zau ns (((i + j) / 2 : Nat) : Int)) s < 0
   ·rw [if_pos c]
    rw [cmpN_lt, zbY ns _ hm] at c
    refine bsF_spec ns hs s k _ j (by omega) (by omega) hj (fun m hml hmi => ?_) h2
    by_cases q : m = (i + j) / 2
    ·subst q; exact c
    ·exact ltN_trans (hsx m _ hml hm (by omega)) c
   ·rw [if_neg c]
    rw [cmpN_lt, zbY ns _ hm] at c
    refine bsF_spec ns hs s k i _ (by omega) (by omega) (by omega) h1 (fun m hml hmi => ?_)
    by_cases q : m = (i + j) / 2
    ·subst q; exact c
    ·exact fun q2 => c (ltN_trans (hsx _ m hm hml (by omega)) q2)
  ·rw [if_neg e]
   exact ⟨by omega, h1, fun m hml hmi => h2 m hml (by omega)⟩
theorem bs_spec (ns : List S50) (hs : Sorted ns) (s : ByteArray) : Split ns s (ns.take (bs ns s)) (ns.drop (bs ns s)) := by
 obtain ⟨h1, h2, h3⟩ := bsF_spec ns hs s (ns.length + 1) 0 ns.length (by omega) (Nat.zero_le _) (Nat.le_refl _) (fun m _ h => by omega) (fun m h1 h2 => by omega)
 refine ⟨(List.take_append_drop _ _).symm, fun x hx => ?_, fun x hx => ?_⟩
 ·obtain ⟨i, hi, rfl⟩ := List.getElem_of_mem hx
  rw [List.length_take] at hi
  rw [List.getElem_take]
  exact h2 i (by omega) (by show i < bs ns s; omega)
 ·obtain ⟨i, hi, rfl⟩ := List.getElem_of_mem hx
  rw [List.length_drop] at hi
  rw [List.getElem_drop]
  exact h3 _ (by omega) (by show bs ns s ≤ _; omega)
theorem Split.len {s : ByteArray} : ∀ {ns A B A' B' : List S50}, Split ns s A B → Split ns s A' B' → A = A' ∧ B = B'
 | ns, [], B, [], B', h, h' => ⟨rfl, by have := h.eq.symm.trans h'.eq; exact this⟩
 | ns, [], B, x :: A', B', h, h' => by
  have e := h.eq.symm.trans h'.eq
  exact absurd (h'.lo x (List.mem_cons_self ..)) (h.hi x (by have e : B = x :: (A' ++ B') := e; rw [e]; exact List.mem_cons_self ..))
 | ns, x :: A, B, [], B', h, h' => by
  have e := h.eq.symm.trans h'.eq
  exact absurd (h.lo x (List.mem_cons_self ..)) (h'.hi x (by have e : x :: (A ++ B) = B' := e; rw [← e]; exact List.mem_cons_self ..))
 | ns, x :: A, B, y :: A', B', h, h' => by
  have e : x :: (A ++ B) = y :: (A' ++ B') := h.eq.symm.trans h'.eq
  injection e with e1 e2
  obtain ⟨q1, q2⟩ := Split.len (ns := A ++ B) (A := A) (B := B) (A' := A') (B' := B') ⟨rfl, fun z hz => h.lo z (List.mem_cons_of_mem _ hz), h.hi⟩ ⟨e2, fun z hz => h'.lo z (List.mem_cons_of_mem _ hz), h'.hi⟩
  exact ⟨by rw [e1, q1], q2⟩
theorem Split.bs {ns : List S50} (hs : Sorted ns) {s : ByteArray} {A B : List S50} (h : Split ns s A B) : bs ns s = A.length := by
 obtain ⟨e, _⟩ := Split.len (ns := ns) h (bs_spec ns hs s)
 rw [e, List.length_take, Nat.min_eq_left (bs_le ns s)]
theorem split_ex {ns : List S50} (hs : Sorted ns) (s : ByteArray) : ∃ A B, Split ns s A B ∧ bs ns s = A.length := ⟨_, _, bs_spec ns hs s, Split.bs hs (bs_spec ns hs s)⟩
theorem Split.at {ns : List S50} (hs : Sorted ns) {s : ByteArray} {A B : List S50} (h : Split ns s A B) : bsAt ns s = true ↔ ∃ n B', B = ⟨s, n⟩ :: B' := by
 have hb := h.bs hs
 unfold bsAt
 rw [Bool.and_eq_true, decide_eq_true_eq, beq_iff_eq, cmpN_eq, hb]
 have hl : ns.length = A.length + B.length := by rw [h.eq, List.length_append]
 constructor
 ·rintro ⟨h1, h2⟩
  rw [zbY ns _ h1] at h2
  cases B with
  | nil => simp at hl; omega
  | cons x B' =>
   have e : ns[A.length]'h1 = x := by
    have := h.eq
    subst this
    rw [List.getElem_append_right (Nat.le_refl _)]; simp
   rw [e] at h2
   exact ⟨x.f1, B', by rw [← h2]⟩
 ·rintro ⟨n, B', rfl⟩
  have h1 : A.length < ns.length := by rw [hl]; simp
  refine ⟨h1, ?_⟩
  rw [zbY ns _ h1]
  have := h.eq
  subst this
  rw [List.getElem_append_right (Nat.le_refl _)]; simp
theorem split_mem {ns : List S50} (hs : Sorted ns) {s : ByteArray} {n : Int} (hm : (⟨s, n⟩ : S50) ∈ ns) : ∃ A B, Split ns s A (⟨s, n⟩ :: B) ∧ bs ns s = A.length := by
 obtain ⟨A, B, h, hb⟩ := split_ex hs s
 have hs' := hs
 rw [Sorted, h.eq, List.pairwise_append] at hs'
 rw [h.eq] at hm
 rcases List.mem_append.1 hm with q | q
 ·exact absurd (h.lo _ q) (ltN_irr (⟨s, n⟩ : S50))
 ·cases B with
  | nil => cases q
  | cons x B' =>
   rcases List.mem_cons.1 q with e | q
   ·subst e; exact ⟨A, B', h, hb⟩
   ·exact absurd ((List.pairwise_cons.1 hs'.2.1).1 _ q) (h.hi x (List.mem_cons_self ..))
theorem bsAt_mem {ns : List S50} (hs : Sorted ns) (s : ByteArray) : bsAt ns s = true ↔ ∃ n, (⟨s, n⟩ : S50) ∈ ns := by
 constructor
 ·intro h
  obtain ⟨A, B, hsp, hb⟩ := split_ex hs s
  obtain ⟨n, B', rfl⟩ := (hsp.at hs).1 h
  exact ⟨n, by rw [hsp.eq]; simp⟩
 ·rintro ⟨n, hm⟩
  obtain ⟨A, B, hsp, hb⟩ := split_mem hs hm
  exact (hsp.at hs).2 ⟨n, B, rfl⟩
def insN (ns : List S50) (s : ByteArray) (n : Int) : List S50 := ns.take (bs ns s) ++ ⟨s, n⟩ :: ns.drop (bs ns s)
theorem insN_split {ns : List S50} (hs : Sorted ns) {s : ByteArray} {A B : List S50} (h : Split ns s A B) (n : Int) : insN ns s n = A ++ ⟨s, n⟩ :: B := by
 unfold insN; rw [h.bs hs]
 have := h.eq
 subst this
 rw [List.take_left, List.drop_left]
theorem insN_sorted {ns : List S50} (hs : Sorted ns) {s : ByteArray} (h : bsAt ns s = false) (n : Int) : Sorted (insN ns s n) := by
 obtain ⟨A, B, hsp, hb⟩ := split_ex hs s
 rw [insN_split hs hsp]
 have hs' := hs
 rw [Sorted, hsp.eq, List.pairwise_append] at hs'
 have hB : ∀ y ∈ B, ltN ⟨s, n⟩ y.f0 := by
  intro y hy
  have h1 := hsp.hi y hy
  have h2 : y.f0 ≠ s := fun e => by
   have : bsAt ns s = true := (bsAt_mem hs s).2 ⟨y.f1, by rw [hsp.eq, ← e]; exact List.mem_append_right _ hy⟩
   rw [h] at this; cases this
  unfold ltN at h1 ⊢
  rw [← cmpB_lt] at h1 ⊢
  have h3 : Lib.compareBytes y.f0.toList s.toList ≠ 0 := fun q => h2 (bytes_eq.1 ((cmpB_eq _ _).1 q))
  exact cmpB_swap _ _ h1 h3
 rw [Sorted, List.pairwise_append]
 refine ⟨hs'.1, List.pairwise_cons.2 ⟨hB, hs'.2.1⟩, fun x hx y hy => ?_⟩
 rcases List.mem_cons.1 hy with rfl | hy
 ·exact hsp.lo x hx
 ·exact hs'.2.2 x hx y hy
theorem insN_mem {ns : List S50} {s : ByteArray} {n : Int} {x : S50} : x ∈ insN ns s n ↔ x = ⟨s, n⟩ ∨ x ∈ ns := by
 unfold insN
 rw [List.mem_append, List.mem_cons]
 conv => rhs; rw [← List.take_append_drop (bs ns s) ns, List.mem_append]
 constructor
 ·rintro (h | h | h)
  ·exact .inr (.inl h)
  ·exact .inl h
  ·exact .inr (.inr h)
 ·rintro (h | h | h)
  ·exact .inr (.inl h)
  ·exact .inl h
  ·exact .inr (.inr h)
theorem insN_len (ns : List S50) (s : ByteArray) (n : Int) : (insN ns s n).length = ns.length + 1 := by
 unfold insN; have := bs_le ns s
 rw [List.length_append, List.length_cons, List.length_take, List.length_drop]; omega
def cntN (ns : List S50) (i : Nat) : Nat := ns.countP fun x => x.f1 == (i : Int)
theorem cntN_ins (ns : List S50) (s : ByteArray) (n : Int) (i : Nat) : cntN (insN ns s n) i = cntN ns i + if n = (i : Int) then 1 else 0 := by
 unfold cntN insN
 rw [List.countP_append, List.countP_cons]
 have e : ns.countP (fun x => x.f1 == (i : Int)) = (ns.take (bs ns s)).countP (fun x => x.f1 == (i : Int)) + (ns.drop (bs ns s)).countP (fun x => x.f1 == (i : Int)) := by rw [← List.countP_append, List.take_append_drop]
 rw [e]
 simp only [beq_iff_eq]
 omega
theorem cntN_pos {ns : List S50} {i : Nat} : 0 < cntN ns i ↔ ∃ x ∈ ns, x.f1 = (i : Int) := by
 unfold cntN; rw [List.countP_pos_iff]; simp
def cnt (l : List S40) (i : Nat) : Nat := (l.map fun x => cntN x.f2 i).sum
structure MayP (l : List S40) : Prop where
 pos : 0 < l.length
 len : l.length ≤ 64
 last : 1 < l.length → (zah l ((l.length : Int) - 1)).f0 ≠ 0
 k0 : (zah l ((0 : Nat) : Int)).f0 = 2
 l0 : (zah l ((0 : Nat) : Int)).f4 = 1
 nodes : ∀ j : Nat, j < l.length → zb6 (zah l (j : Int))
 names : ∀ j : Nat, j < l.length → ∀ x ∈ (zah l (j : Int)).f2, zbJ l x
 links : ∀ i : Nat, 0 < i → i < l.length → (zah l (i : Int)).f4 = (cnt l i : Int)
 dirs : ∀ i : Nat, 0 < i → i < l.length → (zah l (i : Int)).f0 = 2 → (zah l (i : Int)).f4 ≤ 1 ∧ ((zah l (i : Int)).f4 = 0 → (zah l (i : Int)).f2 = []) ∧ ((zah l (i : Int)).f4 = 1 → Reach l i)
theorem fold_cnt : ∀ (ns : List S50) (c : List Int) (L : Nat), c.length = L → (∀ x ∈ ns, 0 ≤ x.f1 ∧ x.f1 < (L : Int)) → (∀ j : Nat, j < L → 0 ≤ rd c (j : Int) ∧ rd c (j : Int) + ns.length ≤ 1000000000) → ∀ j : Nat, j < L → rd (ns.foldl bump c) (j : Int) = rd c (j : Int) + (cntN ns j : Int)
 | [], c, L, _, _, _, j, _ => by simp [cntN]
 | x :: r, c, L, hc, hx, hb, j, hj => by
  obtain ⟨x1, x2⟩ := hx x (List.mem_cons_self ..)
  obtain ⟨m, hm⟩ : ∃ m : Nat, x.f1 = (m : Int) := ⟨x.f1.toNat, by omega⟩
  have hL : ∀ i : Nat, rd (bump c x) (i : Int) = if m = i then rd c (m : Int) + 1 else rd c (i : Int) := fun i => by
   unfold bump
   rw [hm, Int.toNat_natCast, rd_set _ _ _ _ (by omega)]
   have := hb m (by omega)
   by_cases e : m = i
   ·rw [if_pos e, if_pos e]; unfold wrap64; rw [List.length_cons] at this; omega
   ·rw [if_neg e, if_neg e]
  rw [List.foldl_cons, fold_cnt r (bump c x) L (by rw [bump_len]; exact hc) (fun y hy => hx y (List.mem_cons_of_mem _ hy)) (fun i hi => ?_) j hj, hL]
  ·have : (cntN (x :: r) j : Int) = cntN r j + if m = j then 1 else 0 := by
    unfold cntN; rw [List.countP_cons]
    have : (x.f1 == (j : Int)) = decide (m = j) := by rw [hm]; by_cases e : m = j <;> simp [e] <;> omega
    rw [this]
    by_cases e : m = j <;> simp [e]
   rw [this]
   by_cases e : m = j
   ·subst e; rw [if_pos rfl, if_pos rfl]; omega
   ·rw [if_neg e, if_neg e]; omega
  ·rw [hL]
   have h1 := hb i hi
   rw [List.length_cons] at h1
   by_cases e : m = i
   ·subst e; rw [if_pos rfl]; omega
   ·rw [if_neg e]; omega
theorem bumps_cnt (l : List S40) (hl : l.length ≤ 64) (hn : ∀ j : Nat, j < l.length → (zah l (j : Int)).f2.length ≤ 64 ∧ ∀ x ∈ (zah l (j : Int)).f2, 0 ≤ x.f1 ∧ x.f1 < (l.length : Int)) : ∀ (d i : Nat) (c : List Int), i + d = l.length → c.length = l.length → (∀ j : Nat, j < l.length → 0 ≤ rd c (j : Int) ∧ rd c (j : Int) ≤ 64 * i) →
  ∀ j : Nat, j < l.length → rd (bumps l d i c) (j : Int) = rd c (j : Int) + (((l.drop i).map fun x => cntN x.f2 j).sum : Nat)
 | 0, i, c, h, _, _, j, _ => by rw [List.drop_eq_nil_of_le (by omega)]; show rd c (j : Int) = _; simp
 | d + 1, i, c, h, hc, hb, j, hj => by
  obtain ⟨h1, h2⟩ := hn i (by omega)
  have hf := fold_cnt (zah l (i : Int)).f2 c l.length hc h2 (fun j hj => by have := hb j hj; exact ⟨this.1, by omega⟩)
  have hle : ∀ j, cntN (zah l (i : Int)).f2 j ≤ 64 := fun j => Nat.le_trans (List.countP_le_length ..) h1
  show rd (bumps l d (i + 1) _) (j : Int) = _
  rw [bumps_cnt l hl hn d (i + 1) _ (by omega) (by rw [fold_len]; exact hc) (fun j hj => by rw [hf j hj]; have := hb j hj; have := hle j; omega) j hj, hf j hj, List.drop_eq_getElem_cons (show i < l.length by omega), List.map_cons, List.sum_cons, zcd l i (by omega)]
  omega
theorem headB_iff (l : List S40) : zbK l = true ↔ 0 < l.length ∧ l.length ≤ 64 ∧ (1 < l.length → (zah l ((l.length : Int) - 1)).f0 ≠ 0) ∧ (zah l 0).f0 = 2 ∧ (zah l 0).f4 = 1 := by
 unfold zbK
 simp only [Bool.and_eq_true, decide_eq_true_eq, beq_iff_eq, Bool.not_eq_true', Bool.and_eq_false_iff, decide_eq_false_iff_not, beq_eq_false_iff_ne, ne_eq]
 constructor
 ·rintro ⟨⟨⟨⟨h1, h2⟩, h3⟩, h4⟩, h5⟩
  exact ⟨h1, h2, fun h => h3.resolve_left (fun q => q h), h4, h5⟩
 ·rintro ⟨h1, h2, h3, h4, h5⟩
  refine ⟨⟨⟨⟨h1, h2⟩, ?_⟩, h4⟩, h5⟩
  by_cases h : 1 < l.length
  ·exact .inr (h3 h)
  ·exact .inl h
theorem nodeP_names {x : S40} (h : zb6 x) : x.f2.length ≤ 64 := by
 rcases h with h | h | h | h
 ·rw [h.2]; exact Nat.zero_le _
 ·rw [h.2.2.2.1]; exact Nat.zero_le _
 ·exact h.2.2.1
 ·rw [h.2.2.2.2.2.2]; exact Nat.zero_le _
theorem last_iff (l : List S40) (hl : l.length ≤ 64) (hN : ∀ j : Nat, j < l.length → zb6 (zah l (j : Int)) ∧ ∀ x ∈ (zah l (j : Int)).f2, zbJ l x) (R : List Bool) (hR : ∀ i, on R i = true ↔ Reach l i) :
  lastB l (bumps l l.length 0 (List.replicate l.length 0)) R l.length = true ↔ ∀ i : Nat, 0 < i → i < l.length → (zah l (i : Int)).f4 = (cnt l i : Int) ∧ ((zah l (i : Int)).f0 = 2 → (zah l (i : Int)).f4 ≤ 1 ∧ ((zah l (i : Int)).f4 = 0 → (zah l (i : Int)).f2 = []) ∧ ((zah l (i : Int)).f4 = 1 → Reach l i)) := by
 have hz : ∀ (n i : Nat), rd (List.replicate n 0) (i : Int) = 0 := fun n i => by
  unfold rd; rw [Int.toNat_natCast, List.getD_eq_getElem?_getD, List.getElem?_replicate]; split <;> rfl
 have hb : ∀ j : Nat, j < l.length → rdOf 0 (bumps l l.length 0 (List.replicate l.length 0)) (j : Int) = (cnt l j : Int) := fun j hj => by
  have := bumps_cnt l hl (fun j hj => ⟨nodeP_names (hN j hj).1, fun x hx => by have := (hN j hj).2 x hx; exact ⟨by have := this.1; omega, this.2.1⟩⟩) l.length 0 (List.replicate l.length 0) (by omega) (by simp) (fun j _ => by rw [hz]; omega) j hj
  rw [hz, List.drop_zero] at this
  show rd _ _ = _
  rw [this]; unfold cnt; omega
 unfold lastB
 simp only [List.all_eq_true, List.mem_range, Bool.not_eq_true']
 have key : ∀ i : Nat, i < l.length → (zbg l (bumps l l.length 0 (List.replicate l.length 0)) R i = false ↔ (0 < i → (zah l (i : Int)).f4 = (cnt l i : Int) ∧ ((zah l (i : Int)).f0 = 2 → (zah l (i : Int)).f4 ≤ 1 ∧ ((zah l (i : Int)).f4 = 0 → (zah l (i : Int)).f2 = []) ∧ ((zah l (i : Int)).f4 = 1 → Reach l i)))) := fun i hi => by
  have hr : rdOf false R (i : Int) = true ↔ Reach l i := hR i
  unfold zbg
  rw [hb i hi]
  have e2 : (zah l (i : Int)).f2 = [] ↔ ¬ 0 < (zah l (i : Int)).f2.length := by rw [← List.length_eq_zero_iff]; omega
  rw [← hr, e2]
  by_cases q0 : 0 < i
  ·rw [decide_eq_true q0, Bool.true_and]
   simp only [Bool.or_eq_false_iff, Bool.and_eq_false_iff, bne_eq_false_iff_eq, beq_eq_false_iff_ne, decide_eq_false_iff_not, Bool.not_eq_false', ne_eq]
   constructor
   ·rintro ⟨h1, h2⟩ _
    refine ⟨h1, fun hk => ?_⟩
    obtain ⟨h3, h4, h5⟩ := h2.resolve_left (fun q => q hk)
    exact ⟨by omega, fun q => h4.resolve_left (fun q2 => q2 q), fun q => h5.resolve_left (fun q2 => q2 q)⟩
   ·intro h
    obtain ⟨h1, h2⟩ := h q0
    refine ⟨h1, ?_⟩
    by_cases hk : (zah l (i : Int)).f0 = 2
    ·obtain ⟨h3, h4, h5⟩ := h2 hk
     refine .inr ⟨by omega, ?_, ?_⟩
     ·by_cases q : (zah l (i : Int)).f4 = 0
      ·exact .inr (h4 q)
      ·exact .inl q
     ·by_cases q : (zah l (i : Int)).f4 = 1
      ·exact .inr (h5 q)
      ·exact .inl q
    ·exact .inl hk
  ·rw [decide_eq_false q0, Bool.false_and]
   exact ⟨fun _ h => absurd h q0, fun _ => rfl⟩
 exact ⟨fun h i h0 hi => (key i hi).1 (h i hi) h0, fun h i hi => (key i hi).2 (fun h0 => h i h0 hi)⟩
theorem may_iff {l : List S40} (hf : Fits l) : EvB (fun k => zaH.f k l) (MayP l) := by
 by_cases hh : zbK l = true
 ·by_cases hA : ∀ j, j < l.length → zb6 (zah l (j : Int)) ∧ ∀ x ∈ (zah l (j : Int)).f2, zbJ l x
  ·obtain ⟨R, hR, hE⟩ := may_last l hf hh hA
   obtain ⟨h1, h2, h3, h4, h5⟩ := (headB_iff l).1 hh
   have hL := last_iff l h2 hA R hR
   refine ⟨_, hE, hL.trans ⟨fun h => ⟨h1, h2, h3, h4, h5, fun j hj => (hA j hj).1, fun j hj => (hA j hj).2, fun i h0 hi => (h i h0 hi).1, fun i h0 hi => (h i h0 hi).2⟩, fun h i h0 hi => ⟨h.links i h0 hi, h.dirs i h0 hi⟩⟩⟩
  ·refine ⟨false, Ev.congr (fun k => by unfold zaH.f; rw [if_pos hh, if_neg (fun h => hA ((nodes_iff l hf).1 h))]) (Ev.now false), ⟨fun h => by (cases h), fun h => absurd (fun j hj => ⟨h.nodes j hj, h.names j hj⟩) hA⟩⟩
 ·refine ⟨false, Ev.congr (fun k => by unfold zaH.f; rw [if_neg hh]) (Ev.now false), ⟨fun h => by (cases h), fun h => absurd ((headB_iff l).2 ⟨h.pos, h.len, h.last, h.k0, h.l0⟩) hh⟩⟩
theorem may_of {l : List S40} (hf : Fits l) (h : MayP l) : Ev (fun k => zaH.f k l) true := (may_iff hf).out h
theorem of_may {l : List S40} (hf : Fits l) (h : Ev (fun k => zaH.f k l) true) : MayP l := by
 obtain ⟨r, h1, h2⟩ := may_iff hf
 exact h2.1 (Ev.one h1 h)
theorem nd_set (l : List S40) (n : Nat) (x : S40) (hn : n < l.length) (j : Nat) : (zah (l.set n x) (j : Int)) = if n = j then x else (zah l (j : Int)) := by
 show (l.set n x).getD (j : Int).toNat _ = if n = j then _ else l.getD (j : Int).toNat _
 rw [Int.toNat_natCast, List.getD_eq_getElem?_getD, List.getD_eq_getElem?_getD, List.getElem?_set]
 by_cases e : n = j
 ·subst e; simp [hn]
 ·rw [if_neg e, if_neg e]
theorem cnt_set (l : List S40) : ∀ (n : Nat) (x : S40) (hn : n < l.length) (i : Nat), cnt (l.set n x) i + cntN (zah l (n : Int)).f2 i = cnt l i + cntN x.f2 i := by
 induction l with
 | nil => intro n x hn; exact absurd hn (Nat.not_lt_zero _)
 | cons a l ih =>
  intro n x hn i
  cases n with
  | zero =>
   rw [zcd _ _ hn]
   unfold cnt
   rw [List.set_cons_zero, List.map_cons, List.map_cons, List.sum_cons, List.sum_cons]
   show _ + cntN a.f2 i = _
   omega
  | succ n =>
   have h1 := ih n x (by simpa using hn) i
   rw [zcd _ _ hn]
   rw [zcd _ _ (by simpa using hn)] at h1
   unfold cnt at h1 ⊢
   rw [List.set_cons_succ, List.map_cons, List.map_cons, List.sum_cons, List.sum_cons, List.getElem_cons_succ]
   omega
theorem cnt_zero {l : List S40} {i : Nat} : cnt l i = 0 ↔ ∀ j, j < l.length → ∀ x ∈ (zah l (j : Int)).f2, x.f1 ≠ (i : Int) := by
 unfold cnt
 rw [List.sum_eq_zero_iff_forall_eq_nat]
 constructor
 ·intro h j hj x hx e
  rw [zcd l j hj] at hx
  have h1 := h _ (List.mem_map.2 ⟨_, List.getElem_mem hj, rfl⟩)
  have h2 := cntN_pos.2 ⟨x, hx, e⟩
  omega
 ·intro h c hc
  obtain ⟨x, hx, rfl⟩ := List.mem_map.1 hc
  obtain ⟨j, hj, rfl⟩ := List.getElem_of_mem hx
  by_cases q : cntN l[j].f2 i = 0
  ·exact q
  ·obtain ⟨y, hy, e⟩ := cntN_pos.1 (Nat.pos_of_ne_zero q)
   exact absurd e (h j hj y (by rw [zcd l j hj]; exact hy))
theorem cnt_le (l : List S40) (i : Nat) (h : ∀ j, j < l.length → (zah l (j : Int)).f2.length ≤ 64) : cnt l i ≤ 64 * l.length := by
 have key : ∀ l : List S40, (∀ x ∈ l, x.f2.length ≤ 64) → cnt l i ≤ 64 * l.length := by
  intro l
  induction l with
  | nil => intro _; exact Nat.le_refl _
  | cons a l ih =>
   intro h
   have h1 := ih (fun x hx => h x (List.mem_cons_of_mem _ hx))
   have h2 : cntN a.f2 i ≤ 64 := Nat.le_trans (List.countP_le_length ..) (h a (List.mem_cons_self ..))
   unfold cnt at h1 ⊢
   rw [List.map_cons, List.sum_cons, List.length_cons]; omega
 exact key l fun x hx => by
  obtain ⟨j, hj, rfl⟩ := List.getElem_of_mem hx
  rw [← zcd l j hj]; exact h j hj
theorem nameP_size {s : ByteArray} (h : nameP s = 0) : s.size ≤ 64 := by
 unfold nameP at h
 split at h
 ·cases h
 ·split at h
  ·cases h
  ·omega
theorem nodeP_fits {x : S40} (h : zb6 x) : FitsX x := by
 rcases h with h | h | h | h
 ·rw [h.2]; exact ⟨⟨by decide, by decide⟩, fun z hz => (by cases hz), by decide⟩
 ·obtain ⟨_, _, h1, h2, h3⟩ := h
  refine ⟨⟨by omega, by rw [h2]; decide⟩, fun z hz => (by rw [h2] at hz; cases hz), by rw [h3]; decide⟩
 ·obtain ⟨_, _, h1, h2, h3, h4⟩ := h
  refine ⟨⟨by rw [h3]; decide, by omega⟩, fun z hz => ?_, by rw [h4]; decide⟩
  have := nameP_size (((okR_iff _).1 h2).1 z hz)
  omega
 ·obtain ⟨_, _, _, h1, _, h2, h3⟩ := h
  refine ⟨⟨by rw [h2]; decide, by rw [h3]; decide⟩, fun z hz => (by rw [h3] at hz; cases hz), by omega⟩
theorem MayP.fits {l : List S40} (h : MayP l) : Fits l := fun x hx => by
 obtain ⟨j, hj, rfl⟩ := List.getElem_of_mem hx
 have := nodeP_fits (h.nodes j hj)
 rwa [zcd l j hj] at this
theorem MayP.ev {l : List S40} (h : MayP l) : Ev (fun k => zaH.f k l) true := may_of h.fits h
structure DirP (x : S40) : Prop where
 time : TimeP x.f5
 len : x.f2.length ≤ 64
 ok : ∀ y ∈ x.f2, nameP y.f0 = 0
 sorted : Sorted x.f2
 data : x.f1 = []
 target : x.f3 = ⟨#[]⟩
theorem zb6.dir {x : S40} (h : zb6 x) (hk : x.f0 = 2) : DirP x := by
 rcases h with h | h | h | h
 ·have := h.1; omega
 ·have := h.1; omega
 ·obtain ⟨_, h1, h2, h3, h4, h5⟩ := h
  have := (okR_iff _).1 h3
  exact ⟨h1, h2, this.1, this.2, h4, h5⟩
 ·have := h.1; omega
theorem DirP.node {x : S40} (h : DirP x) (hk : x.f0 = 2) : zb6 x := .inr (.inr (.inl ⟨hk, h.time, h.len, (okR_iff _).2 ⟨h.ok, h.sorted⟩, h.data, h.target⟩))
theorem zb6.leaf {x : S40} (h : zb6 x) (hk : x.f0 ≠ 2) : x.f2 = [] := by
 rcases h with h | h | h | h
 ·rw [h.2]; rfl
 ·exact h.2.2.2.1
 ·exact absurd h.1 hk
 ·exact h.2.2.2.2.2.2
theorem MayP.cnt_small {l : List S40} (h : MayP l) (i : Nat) : cnt l i ≤ 4096 := by
 have h1 := cnt_le l i (fun j hj => nodeP_names (h.nodes j hj))
 have := h.len
 omega
theorem zbJ.nat {l : List S40} {x : S50} (h : zbJ l x) : ∃ m : Nat, x.f1 = (m : Int) ∧ 0 < m ∧ m < l.length ∧ (zah l (m : Int)).f0 ≠ 0 := by
 obtain ⟨h1, h2, h3⟩ := h
 refine ⟨x.f1.toNat, by omega, by omega, by omega, ?_⟩
 rw [show ((x.f1.toNat : Nat) : Int) = x.f1 by omega]; exact h3
theorem nameIn_of {l : List S40} {x : S50} {m : Nat} (e : x.f1 = (m : Int)) (h0 : 0 < m) (h1 : m < l.length) (h2 : (zah l (m : Int)).f0 ≠ 0) : zbJ l x := ⟨by omega, by omega, by rw [e]; exact h2⟩
theorem Reach.keep {l l' : List S40} (n : Nat) (hleaf : (zah l (n : Int)).f2 = []) (hlen : l.length ≤ l'.length) (hN : ∀ j, j < l.length → ∀ x ∈ (zah l (j : Int)).f2, zbJ l x) (h : ∀ j, j < l.length → ∀ x ∈ (zah l (j : Int)).f2, ∀ m : Nat, x.f1 = (m : Int) → (zah l (m : Int)).f0 = 2 → m ≠ n → (∃ y ∈ (zah l' (j : Int)).f2, y.f1 = x.f1) ∧ (zah l' (m : Int)).f0 = 2) {i : Nat} (hr : Reach l i) : i ≠ n → Reach l' i := by
 induction hr with
 | root => intro _; exact .root
 | @step j x hj hjl hx hd ih =>
  intro hne
  have hjn : j ≠ n := fun e => by subst e; rw [hleaf] at hx; cases hx
  obtain ⟨m, hm, _, _, _⟩ := (hN j hjl x hx).nat
  have hmn : m ≠ n := by rw [hm, Int.toNat_natCast] at hne; exact hne
  rw [hm] at hd
  obtain ⟨⟨y, hy, e⟩, hk⟩ := h j hjl x hx m hm hd hmn
  have := Reach.step (ih hjn) (Nat.lt_of_lt_of_le hjl hlen) hy (by rw [e, hm]; exact hk)
  rwa [e] at this
theorem MayP.edit {l l' : List S40} (h : MayP l) (hlen : l'.length = l.length) (hk : ∀ j, j < l.length → (zah l' (j : Int)).f0 = (zah l (j : Int)).f0) (h0 : (zah l' (((0 : Nat)) : Int)).f4 = 1) (hN : ∀ j, j < l.length → zb6 (zah l' (j : Int))) (hn : ∀ j, j < l.length → ∀ x ∈ (zah l' (j : Int)).f2, zbJ l x) (hL : ∀ i : Nat, 0 < i → i < l.length → (zah l' (i : Int)).f4 = (cnt l' i : Int))
  (hD : ∀ i : Nat, 0 < i → i < l.length → (zah l (i : Int)).f0 = 2 → (zah l' (i : Int)).f4 ≤ 1 ∧ ((zah l' (i : Int)).f4 = 0 → (zah l' (i : Int)).f2 = []) ∧ ((zah l' (i : Int)).f4 = 1 → Reach l' i)) : MayP l' where
 pos := by rw [hlen]; exact h.pos
 len := by rw [hlen]; exact h.len
 last := fun h1 => by
  rw [hlen] at h1 ⊢
  have := h.last h1
  rw [show (l.length : Int) - 1 = ((l.length - 1 : Nat) : Int) by omega] at this ⊢
  rw [hk _ (by omega)]; exact this
 k0 := by rw [hk 0 h.pos]; exact h.k0
 l0 := h0
 nodes := fun j hj => hN j (by omega)
 names := fun j hj x hx => by
  obtain ⟨m, hm, h1, h2, h3⟩ := (hn j (by omega) x hx).nat
  exact nameIn_of hm h1 (by omega) (by rw [hk m h2]; exact h3)
 links := fun i h1 h2 => hL i h1 (by omega)
 dirs := fun i h1 h2 h3 => hD i h1 (by omega) (by rw [← hk i (by omega)]; exact h3)
theorem MayP.reach {l : List S40} (h : MayP l) {d : Nat} (hd : d < l.length) (hk : (zah l (d : Int)).f0 = 2) (h4 : (zah l (d : Int)).f4 ≠ 0) : Reach l d := by
 by_cases e : d = 0
 ·subst e; exact .root
 ·have h1 := h.dirs d (by omega) hd hk
  have h2 := h.links d (by omega) hd
  exact h1.2.2 (by omega)
theorem hasB_of (l : List S40) (d : Int) (h : hasB l d = true) : ∃ m : Nat, d = (m : Int) ∧ m < l.length ∧ (zah l (m : Int)).f0 ≠ 0 := by
 unfold hasB at h
 simp only [Bool.and_eq_true, decide_eq_true_eq, bne_iff_ne, ne_eq] at h
 exact ⟨d.toNat, by omega, by omega, by rw [show ((d.toNat : Nat) : Int) = d by omega]; exact h.2.2⟩
def linkP (k : Nat) (l : List S40) (ns : List Int) (now : Int) : Option Bool :=
 (zbv.f k l ns).bind fun m => if m = true then (zbh.f now).bind fun tm => some tm else some false
theorem addN_len (l : List S40) (dir : Int) (s : ByteArray) (node now : Int) : (addN l dir s node now).length = l.length := List.length_set
def zcs (u : List S40) (n d : Int) : List S40 := u.set n.toNat { zah u n with f4 := wrap64 ((zah u n).f4 + d) }
end Go.Proofs.YtjghephnjkffcaaGreat.PAll
