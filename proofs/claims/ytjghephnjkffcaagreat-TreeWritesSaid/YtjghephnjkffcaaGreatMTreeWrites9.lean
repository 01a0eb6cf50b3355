/- Parts of one proof, merged by a program of this repo: walks over the given program and plain facts. -/
import Derived.Test.YtjghephnjkffcaaGreatMTreeWrites4
import Derived.Test.YtjghephnjkffcaaGreatMTreeWrites7
import Derived.Test.YtjghephnjkffcaaGreatMTreeWrites3
import Derived.Test.YtjghephnjkffcaaGreatMTreeWrites5
import Derived.Shelf.Spec.SlicesInsertGrow
import Derived.Test.YtjghephnjkffcaaGreatMTreeWrites2
namespace Go.Proofs.YtjghephnjkffcaaGreat.PAll
open Go.RowKit Go.Proofs.YtjghephnjkffcaaGreatW.PrintWords Go.Proofs.YtjghephnjkffcaaGreatW.PrintLast Go.Proofs.YtjghephnjkffcaaGreatW.PrintMore
attribute [local go_sem] zb2 zb0 zcn zcm zbF zbE zb1 zbZ
set_option linter.unusedVariables false
set_option linter.unusedSimpArgs false
def zaZ.l0 : Nat → List (S40) → Int → Int → List (S40) → Option ((List (S40)))
 | 0, _, _, _, _ => none
 | k + 1, x6, x7, x8, x215000 => if x8 < x7 then (if 0 ≤ x8 then (if x8 < (x6.length : Int) then (if ([] : List Int).length + ((zah x6 x8).f1).length < 140737488355328 then (if ([] : List (S50)).length + ((zah x6 x8).f2).length < 5864062014805 then (if x215000.length < 1599289640401 then (zaZ.l0 k x6 x7 (wrap64 (x8 + 1)) (x215000 ++ [(⟨(zah x6 x8).f0, (([] : List Int) ++ ((zah x6 x8).f1)), (([] : List (S50)) ++ ((zah x6 x8).f2)), (zah x6 x8).f3, (zah x6 x8).f4, (zah x6 x8).f5⟩ : S40)])) else (none)) else (none)) else (none)) else (none)) else (none)) else (some x215000)
def zaZ.f (k : Nat) (l0_0 : List (S40)) : Option ((List (S40))) := zaZ.l0 k l0_0 (l0_0.length : Int) 0 ([] : List (S40))
theorem zaZ.mono_l : ∀ k, (∀ y0 y1 y2 y3, LeO (zaZ.l0 k y0 y1 y2 y3) (zaZ.l0 (k + 1) y0 y1 y2 y3))
 | 0 => fun _ _ _ _ r h => by simp [zaZ.l0] at h
 | k + 1 => by
  have ih0 := zaZ.mono_l k
  ·intro y0 y1 y2 y3
   unfold zaZ.l0
   repeat' first
   | (with_reducible exact ih0 _ _ _ _)
   | (with_reducible exact LeO.refl _)
   | (with_reducible exact LeO.none _)
   | (with_reducible refine LeO.ite ?_ ?_)
   | (with_reducible refine LeO.bind ?_ (fun _ => ?_))
   | exact ih0 _ _ _ _
   | exact LeO.none _
   | refine LeO.ite ?_ ?_
   | refine LeO.bind ?_ (fun _ => ?_)
theorem zaZ.mono : ∀ a0 k, LeO (zaZ.f k a0) (zaZ.f (k + 1) a0) := by
 intro a0 k
 have ih0 := zaZ.mono_l k
 unfold zaZ.f
 repeat' first
   | (with_reducible exact ih0 _ _ _ _)
   | (with_reducible exact LeO.refl _)
   | (with_reducible exact LeO.none _)
   | (with_reducible refine LeO.ite ?_ ?_)
   | (with_reducible refine LeO.bind ?_ (fun _ => ?_))
   | exact ih0 _ _ _ _
   | exact LeO.none _
   | refine LeO.ite ?_ ?_
   | refine LeO.bind ?_ (fun _ => ?_)
set_option maxHeartbeats 8000000 in
set_option maxRecDepth 100000 in
theorem zaZ.calls (k : Nat) (A0_0 : Option Addr) (c0_0 : Nat) (l0_0 : List (S40)) (r : List (S40)) (w : World) (hr0_0 : Kd.C k40 w A0_0 l0_0.length l0_0) (hc0_0 : l0_0.length ≤ c0_0) (h : zaZ.f k l0_0 = some r) :
  Calls Tryz.prog 71 #[.agg #[.slice A0_0 l0_0.length c0_0]] w fun e w' => ∃ v0_ : Value, e = .returned (.agg #[v0_]) ∧ Kd.S k40 40 w' w.heap.size (fun _ => True) v0_ r ∧ Below w.heap.size w w' := by
 have hu24 := Tryz.underlying24
 have hu40 := Tryz.underlying40
 have HR0_0 := zaa.mk hr0_0
 have HC0_0 := zaa.mk hc0_0
 clear hr0_0 hc0_0
 have HB := zaa.mk (Below.refl w.heap.size w)
 have H : (zaZ.l0 k l0_0 (l0_0.length : Int) 0 ([] : List (S40))) = some r := h
 clear h
 have H' := zaa.mk H
 clear H
 go_enter Tryz.func71, Tryz.ntmps71
 go_wp2_with (first | ((with_reducible refine zaS (N := 1) rfl ?_); refine zaG ?hg (N := 1) ?hd (cs := #[.slice A0_0 l0_0.length c0_0]) (t := 24) ?hr ?_; (case hd => rfl); (case hg => rfl); (case hr => first | (go_simp; done) | (go_simp; rfl)); intro gb213 hg w2 hbox hb; have n0_ := zaa.mk (zam (by repeat (first | (with_reducible first | exact HB.out | apply zad | apply zab | apply zae) | exact HB.out)) hb); have n1_ := zaa.mk (hbox); have n2_ := zaa.mk ((by rw [hg]; exact (zar (by repeat (first | (with_reducible first | exact HB.out | apply zad | apply zab | apply zae) | exact HB.out))) : w.heap.size ≤ gb213)); have n3_ := zaa.mk ((by rw [hg]; exact (zar (by repeat (first | (with_reducible first | exact HB.out | apply zad | apply zab | apply zae) | exact HB.out))) : w.heap.size ≤ gb213)); clear HB; have HB := n0_; have BK213 := n1_; have GW213 := n2_; have GE213 := n3_; clear n0_ n1_ n2_ n3_; clear hb hbox hg) | ((with_reducible refine zaS (N := 2) rfl ?_); refine zaG ?hg (N := 2) ?hd (cs := #[.slice none 0 0]) (t := 24) ?hr ?_; (case hd => rfl); (case hg => rfl); (case hr => first | (go_simp; done) | (go_simp; rfl)); intro gb214 hg w3 hbox hb; have n0_ := zaa.mk (zan (g := gb213) (o := .cells #[.slice A0_0 l0_0.length c0_0] 24 (0, 0)) (by (with_reducible repeat (first | refine zaj ?_ _ | refine zak ?_ | refine zai ?_ _)); exact BK213.out) hb); have n1_ := zaa.mk (zam (by repeat (first | (with_reducible first | exact HB.out | apply zad | apply zab | apply zae | refine zal ?_ GE213.out) | exact HB.out)) hb); have n2_ := zaa.mk (hbox); have n3_ := zaa.mk ((by rw [hg]; exact (zar (by repeat (first | (with_reducible first | exact HB.out | apply zad | apply zab | apply zae | refine zal ?_ GE213.out) | exact HB.out))) : w.heap.size ≤ gb214)); have n4_ := zaa.mk ((by rw [hg]; exact (zar (by repeat (first | (with_reducible first | exact HB.out | apply zad | apply zab | apply zae | refine zal ?_ GE213.out) | exact HB.out))) : w.heap.size ≤ gb214)); have n5_ := zaa.mk ((by rw [hg]; exact Nat.ne_of_lt (zaO (g := gb213) (o := .cells #[.slice A0_0 l0_0.length c0_0] 24 (0, 0)) (by (with_reducible repeat (first | refine zaj ?_ _ | refine zak ?_ | refine zai ?_ _)); exact BK213.out)) : gb213 ≠ gb214)); have n6_ := zaa.mk ((by rw [hg]; exact Nat.ne_of_gt (zaO (g := gb213) (o := .cells #[.slice A0_0 l0_0.length c0_0] 24 (0, 0)) (by (with_reducible repeat (first | refine zaj ?_ _ | refine zak ?_ | refine zai ?_ _)); exact BK213.out)) : gb214 ≠ gb213)); clear BK213; clear HB; have BK213 := n0_; have HB := n1_; have BK214 := n2_; have GW214 := n3_; have GE214 := n4_; have NB213_214 := n5_; have NB214_213 := n6_; clear n0_ n1_ n2_ n3_ n4_ n5_ n6_; clear hb hbox hg; have hnb4 := NB213_214.out; have hnc4 := NB214_213.out; have hcz5_0 : w3.cell? ⟨gb213, 0, none⟩ = some (.slice A0_0 l0_0.length c0_0) := (zac BK213.out 0).trans rfl; have hfz5_0 := zaf BK213.out 0))
 go_loopg [8] k (fun kq v8 w' => ∃ (x8_1 : Int) (x215000_1 : List (S40)) (u215000 : Value), v8 = .int .i64 x8_1 ∧ zaa (zaZ.l0 kq l0_0 (l0_0.length : Int) x8_1 x215000_1 = some r) ∧ zaa (kq ≤ k) ∧ zaa (Kd.S k40 40 w' w.heap.size (fun _ => True) u215000 x215000_1) ∧ zaa (w'.heap[gb213]? = some (.cells #[(.slice A0_0 l0_0.length c0_0)] 24 (0, 0))) ∧ zaa (w'.heap[gb214]? = some (.cells #[u215000] 24 (0, 0))) ∧ zaa (Below w.heap.size w w'))
 case atStart => exact ⟨(0), (([] : List (S40))), (.slice none 0 0), (by first | rfl | (simp; done) | (simp [*]; done)), H', ⟨Nat.le_refl _⟩, ⟨by first | exact Kd.S_nil _ _ _ _ _ | exact Kd.N_nil _ _ _ _ _ | exact Kd.V_nil _ _ _ _ _ | exact Kd.Q_nil _ _ _ _ _ | exact Kd.R_nil _ _ _ _ _⟩, ⟨by (with_reducible repeat (first | refine zaj ?_ _ | refine zak ?_ | refine zai ?_ _)); exact BK213.out⟩, ⟨by (with_reducible repeat (first | refine zaj ?_ _ | refine zak ?_ | refine zai ?_ _)); exact BK214.out⟩, ⟨by repeat (first | (with_reducible first | exact HB.out | apply zad | apply zab | apply zae | refine zal ?_ GE213.out | refine zal ?_ GE214.out) | exact HB.out)⟩⟩
 case round =>
  clear H'
  try clear hcz5_0
  try clear hfz5_0
  obtain ⟨x8_1, x215000_1, u215000, rfl, HA, HK1, HO_215000, BK213, BK214, HB⟩ := hrel
  cases gk with
  | zero => exact absurd HA.out (by simp [zaZ.l0])
  | succ k1 =>
   have H := HA.out
   clear HA
   simp only [zaZ.l0] at H
   by_cases c6 : x8_1 < (l0_0.length : Int)
   ·rw [if_pos c6] at H
    have c6b0 : decide (x8_1 < (l0_0.length : Int)) = true := decide_eq_true c6
    clear c6
    by_cases c7 : 0 ≤ x8_1
    ·rw [if_pos c7] at H
     have c7b0 : decide (0 ≤ x8_1) = true := decide_eq_true c7
     clear c7
     by_cases c8 : x8_1 < (l0_0.length : Int)
     ·rw [if_pos c8] at H
      have c8b0 : decide (x8_1 < (l0_0.length : Int)) = true := decide_eq_true c8
      clear c8
      by_cases c9 : ([] : List Int).length + ((zah l0_0 x8_1).f1).length < 140737488355328
      ·rw [if_pos c9] at H
       have LMc9 := zaa.mk c9
       clear c9
       obtain ⟨y217, hy217⟩ : ∃ y_ : List Int, y_ = (([] : List Int) ++ ((zah l0_0 x8_1).f1)) := ⟨_, rfl⟩
       replace H : (if ([] : List (S50)).length + ((zah l0_0 x8_1).f2).length < 5864062014805 then (if x215000_1.length < 1599289640401 then (zaZ.l0 k1 l0_0 (l0_0.length : Int) (wrap64 (x8_1 + 1)) (x215000_1 ++ [(⟨(zah l0_0 x8_1).f0, y217, (([] : List (S50)) ++ ((zah l0_0 x8_1).f2)), (zah l0_0 x8_1).f3, (zah l0_0 x8_1).f4, (zah l0_0 x8_1).f5⟩ : S40)])) else (none)) else (none)) = some r := by first | (rw [hy217]; with_reducible exact H) | (have H2_ := (Option.bind_some _ _).symm.trans H; rw [hy217]; with_reducible exact H2_) | (have H2_ := (Option.bind_some _ _).symm.trans H; with_reducible exact H2_) | with_reducible exact H | (rw [hy217]; exact H) | exact H
       have Ny217 := zaa.mk hy217
       clear hy217
       by_cases c10 : ([] : List (S50)).length + ((zah l0_0 x8_1).f2).length < 5864062014805
       ·rw [if_pos c10] at H
        have LMc10 := zaa.mk c10
        clear c10
        obtain ⟨y220, hy220⟩ : ∃ y_ : List (S50), y_ = (([] : List (S50)) ++ ((zah l0_0 x8_1).f2)) := ⟨_, rfl⟩
        replace H : (if x215000_1.length < 1599289640401 then (zaZ.l0 k1 l0_0 (l0_0.length : Int) (wrap64 (x8_1 + 1)) (x215000_1 ++ [(⟨(zah l0_0 x8_1).f0, y217, y220, (zah l0_0 x8_1).f3, (zah l0_0 x8_1).f4, (zah l0_0 x8_1).f5⟩ : S40)])) else (none)) = some r := by first | (rw [hy220]; with_reducible exact H) | (have H2_ := (Option.bind_some _ _).symm.trans H; rw [hy220]; with_reducible exact H2_) | (have H2_ := (Option.bind_some _ _).symm.trans H; with_reducible exact H2_) | with_reducible exact H | (rw [hy220]; exact H) | exact H
        have Ny220 := zaa.mk hy220
        clear hy220
        by_cases c11 : x215000_1.length < 1599289640401
        ·rw [if_pos c11] at H
         have LMc11 := zaa.mk c11
         clear c11
         obtain ⟨y223, hy223⟩ : ∃ y_ : List (S40), y_ = (x215000_1 ++ [(⟨(zah l0_0 x8_1).f0, y217, y220, (zah l0_0 x8_1).f3, (zah l0_0 x8_1).f4, (zah l0_0 x8_1).f5⟩ : S40)]) := ⟨_, rfl⟩
         replace H : (zaZ.l0 k1 l0_0 (l0_0.length : Int) (wrap64 (x8_1 + 1)) y223) = some r := by first | (rw [hy223]; with_reducible exact H) | (have H2_ := (Option.bind_some _ _).symm.trans H; rw [hy223]; with_reducible exact H2_) | (have H2_ := (Option.bind_some _ _).symm.trans H; with_reducible exact H2_) | with_reducible exact H | (rw [hy223]; exact H) | exact H
         have Ny223 := zaa.mk hy223
         clear hy223
         have H' := zaa.mk H
         clear H
         have p215 : 0 ≤ (x8_1 : Int) := of_decide_eq_true (by first | (with_reducible assumption) | assumption)
         have q215 : x8_1 < (l0_0.length : Int) := of_decide_eq_true (by first | (with_reducible assumption) | assumption)
         obtain ⟨ad215, A215_1, c215_1, A215_2, c215_2, e215, hx215_0, hx215_1, hx215_2, hx215_3, hx215_4, hx215_5, hl215_1, hi215_1, hl215_2, hi215_2⟩ := zbc HR0_0.out x8_1 p215 q215
         cases e215
         replace hx215_0 := (HB.out.cell (World.block_lt_of_cell? w _ hx215_0)).trans hx215_0
         replace hx215_1 := (HB.out.cell (World.block_lt_of_cell? w _ hx215_1)).trans hx215_1
         replace hx215_2 := (HB.out.cell (World.block_lt_of_cell? w _ hx215_2)).trans hx215_2
         replace hx215_3 := (HB.out.cell (World.block_lt_of_cell? w _ hx215_3)).trans hx215_3
         replace hx215_4 := (HB.out.cell (World.block_lt_of_cell? w _ hx215_4)).trans hx215_4
         replace hx215_5 := (HB.out.cell (World.block_lt_of_cell? w _ hx215_5)).trans hx215_5
         have HR215_1 := zaa.mk hi215_1
         have HC215_1 := zaa.mk hl215_1
         clear hi215_1 hl215_1
         have HR215_2 := zaa.mk hi215_2
         have HC215_2 := zaa.mk hl215_2
         clear hi215_2 hl215_2
         replace p215 := eq_true p215
         replace q215 := eq_true q215
         go_wp2_with (first | ((with_reducible refine zaS (N := 4) rfl ?_); refine zaG ?hg (N := 4) ?hd (cs := #[.int .i64 0, .slice none 0 0, .slice none 0 0, .string (⟨#[]⟩ : ByteArray), .int .i64 0, .int .i64 0]) (t := 40) ?hr ?_; (case hd => rfl); (case hg => rfl); (case hr => first | (go_simp; done) | (go_simp; rfl)); intro gb216 hg w12 hbox hb; have n0_ := zaa.mk (Kd.za4 (Kd.S_elderB (by (with_reducible repeat (first | apply Kd.zbn | apply Kd.zbp | apply Kd.zbC)); exact HO_215000.out) gb216 (Nat.le_of_eq hg.symm)) hb); have n1_ := zaa.mk (zan (g := gb213) (o := .cells #[.slice (some ad215) l0_0.length c0_0] 24 (0, 0)) (by (with_reducible repeat (first | refine zaj ?_ _ | refine zak ?_ | refine zai ?_ _)); exact BK213.out) hb); have n2_ := zaa.mk (zan (g := gb214) (o := .cells #[u215000] 24 (0, 0)) (by (with_reducible repeat (first | refine zaj ?_ _ | refine zak ?_ | refine zai ?_ _)); exact BK214.out) hb); have n3_ := zaa.mk (zam (by repeat (first | (with_reducible first | exact HB.out | apply zad | apply zab | apply zae | refine zal ?_ GE213.out | refine zal ?_ GE214.out) | exact HB.out)) hb); have n4_ := zaa.mk (hbox); have n5_ := zaa.mk ((by rw [hg]; exact (zar (by repeat (first | (with_reducible first | exact HB.out | apply zad | apply zab | apply zae | refine zal ?_ GE213.out | refine zal ?_ GE214.out) | exact HB.out))) : w.heap.size ≤ gb216)); have n6_ := zaa.mk ((by rw [hg]; exact (zar (by repeat (first | (with_reducible first | exact HB.out | apply zad | apply zab | apply zae | refine zal ?_ GE213.out | refine zal ?_ GE214.out) | exact HB.out))) : w.heap.size ≤ gb216)); have n7_ := zaa.mk ((by rw [hg]; exact Nat.ne_of_lt (zaO (g := gb213) (o := .cells #[.slice (some ad215) l0_0.length c0_0] 24 (0, 0)) (by (with_reducible repeat (first | refine zaj ?_ _ | refine zak ?_ | refine zai ?_ _)); exact BK213.out)) : gb213 ≠ gb216)); have n8_ := zaa.mk ((by rw [hg]; exact Nat.ne_of_gt (zaO (g := gb213) (o := .cells #[.slice (some ad215) l0_0.length c0_0] 24 (0, 0)) (by (with_reducible repeat (first | refine zaj ?_ _ | refine zak ?_ | refine zai ?_ _)); exact BK213.out)) : gb216 ≠ gb213)); have n9_ := zaa.mk ((by rw [hg]; exact Nat.ne_of_lt (zaO (g := gb214) (o := .cells #[u215000] 24 (0, 0)) (by (with_reducible repeat (first | refine zaj ?_ _ | refine zak ?_ | refine zai ?_ _)); exact BK214.out)) : gb214 ≠ gb216)); have n10_ := zaa.mk ((by rw [hg]; exact Nat.ne_of_gt (zaO (g := gb214) (o := .cells #[u215000] 24 (0, 0)) (by (with_reducible repeat (first | refine zaj ?_ _ | refine zak ?_ | refine zai ?_ _)); exact BK214.out)) : gb216 ≠ gb214)); clear HO_215000; clear BK213; clear BK214; clear HB; have HO_215000 := n0_; have BK213 := n1_; have BK214 := n2_; have HB := n3_; have BK216 := n4_; have GW216 := n5_; have GE216 := n6_; have NB213_216 := n7_; have NB216_213 := n8_; have NB214_216 := n9_; have NB216_214 := n10_; clear n0_ n1_ n2_ n3_ n4_ n5_ n6_ n7_ n8_ n9_ n10_; clear hb hbox hg; have hnb13 := NB216_213.out; have hnc13 := NB213_216.out; have hnb14 := NB216_214.out; have hnc14 := NB214_216.out; have hcz15_0 : w12.cell? ⟨gb216, 0, none⟩ = some (.int .i64 0) := (zac BK216.out 0).trans rfl; have hcz15_1 : w12.cell? ⟨gb216, 1, none⟩ = some (.slice none 0 0) := (zac BK216.out 1).trans rfl; have hcz15_2 : w12.cell? ⟨gb216, 2, none⟩ = some (.slice none 0 0) := (zac BK216.out 2).trans rfl; have hcz15_3 : w12.cell? ⟨gb216, 3, none⟩ = some (.string (⟨#[]⟩ : ByteArray)) := (zac BK216.out 3).trans rfl; have hcz15_4 : w12.cell? ⟨gb216, 4, none⟩ = some (.int .i64 0) := (zac BK216.out 4).trans rfl; have hcz15_5 : w12.cell? ⟨gb216, 5, none⟩ = some (.int .i64 0) := (zac BK216.out 5).trans rfl; have hfz15_0 := zaf BK216.out 0; have hfz15_1 := zaf BK216.out 1; have hfz15_2 := zaf BK216.out 2; have hfz15_3 := zaf BK216.out 3; have hfz15_4 := zaf BK216.out 4; have hfz15_5 := zaf BK216.out 5) | ((with_reducible refine zce (b := .append) (xs := #[.const (.slice none 0 0), .tmp 13]) rfl ?_); at_builtin; refine Kd.R_append_rows (Kd.int .u8) (w0 := w) w.heap.size rfl (.const (.slice none 0 0)) (.tmp 13) 37 5 (.int .u8 0) 1 rfl Tryz.underlying37 info5 rfl (by decide) (by omega) (.slice none 0 0) ([] : List Int) ((zah l0_0 x8_1).f1) _ _ _ (fun _ => True) (fun _ => False) rfl rfl ?aO ?aR (fun _ _ h => h) (fun _ h => h.elim) ?aF ?aB ?aS ?aL ?_; (case aR => exact Kd.C_below HR215_1.out (by repeat (first | (with_reducible first | exact HB.out | apply zad | apply zab | apply zae | refine zal ?_ GE213.out | refine zal ?_ GE214.out | refine zal ?_ GE216.out) | exact HB.out))); (case aB => exact (by repeat (first | (with_reducible first | exact HB.out | apply zad | apply zab | apply zae | refine zal ?_ GE213.out | refine zal ?_ GE214.out | refine zal ?_ GE216.out) | exact HB.out))); (case aF => exact (fun _ _ => trivial)); (case aO => exact ((Kd.R_nil _ _ _ _ (fun _ => True)))); (case aS => exact (zar (by repeat (first | (with_reducible first | exact HB.out | apply zad | apply zab | apply zae | refine zal ?_ GE213.out | refine zal ?_ GE214.out | refine zal ?_ GE216.out) | exact HB.out)))); (case aL => have := LMc9.out; omega); intro v218 w16 ho hb hg hat; rw [← Ny217.out] at ho; have n0_ := zaa.mk (Kd.S_after (Kd.S_apart_nil (by (with_reducible repeat (first | apply Kd.zbn | apply Kd.zbp | apply Kd.zbC)); exact (Kd.zbt (Kd.S_far (p := ⟨gb216, 5, none⟩) (Kd.S_far (p := ⟨gb216, 4, none⟩) (Kd.S_far (p := ⟨gb216, 3, none⟩) (Kd.S_far (p := ⟨gb216, 2, none⟩) (Kd.S_far (p := ⟨gb216, 1, none⟩) (Kd.S_far (p := ⟨gb216, 0, none⟩) (Kd.zbt HO_215000.out (fun k_ hk => (⟨hk, hk.2⟩ : _ ∧ k_ ≠ gb216))) (fun _ hk => hk.2) (.int .i64 ((zah l0_0 x8_1).f0))) (fun _ hk => hk.2) (.slice A215_1 ((zah l0_0 x8_1).f1).length c215_1)) (fun _ hk => hk.2) (.slice A215_2 ((zah l0_0 x8_1).f2).length c215_2)) (fun _ hk => hk.2) (.string ((zah l0_0 x8_1).f3))) (fun _ hk => hk.2) (.int .i64 ((zah l0_0 x8_1).f4))) (fun _ hk => hk.2) (.int .i64 ((zah l0_0 x8_1).f5))) (fun _ h_ => h_.1)))) hg hat); have n1_ := zaa.mk (zbe (g := gb213) (o := .cells #[.slice (some ad215) l0_0.length c0_0] 24 (0, 0)) (by (with_reducible repeat (first | refine zaj ?_ _ | refine zak ?_ | refine zai ?_ _)); refine zaD ?_ NB213_216.out _; (with_reducible repeat (first | refine zaj ?_ _ | refine zak ?_ | refine zai ?_ _)); refine zaD ?_ NB213_216.out _; (with_reducible repeat (first | refine zaj ?_ _ | refine zak ?_ | refine zai ?_ _)); refine zaD ?_ NB213_216.out _; (with_reducible repeat (first | refine zaj ?_ _ | refine zak ?_ | refine zai ?_ _)); refine zaD ?_ NB213_216.out _; (with_reducible repeat (first | refine zaj ?_ _ | refine zak ?_ | refine zai ?_ _)); refine zaD ?_ NB213_216.out _; (with_reducible repeat (first | refine zaj ?_ _ | refine zak ?_ | refine zai ?_ _)); refine zaD ?_ NB213_216.out _; (with_reducible repeat (first | refine zaj ?_ _ | refine zak ?_ | refine zai ?_ _)); exact BK213.out) hg (by simp [Value.ownBlock])); have n2_ := zaa.mk (zbe (g := gb214) (o := .cells #[u215000] 24 (0, 0)) (by (with_reducible repeat (first | refine zaj ?_ _ | refine zak ?_ | refine zai ?_ _)); refine zaD ?_ NB214_216.out _; (with_reducible repeat (first | refine zaj ?_ _ | refine zak ?_ | refine zai ?_ _)); refine zaD ?_ NB214_216.out _; (with_reducible repeat (first | refine zaj ?_ _ | refine zak ?_ | refine zai ?_ _)); refine zaD ?_ NB214_216.out _; (with_reducible repeat (first | refine zaj ?_ _ | refine zak ?_ | refine zai ?_ _)); refine zaD ?_ NB214_216.out _; (with_reducible repeat (first | refine zaj ?_ _ | refine zak ?_ | refine zai ?_ _)); refine zaD ?_ NB214_216.out _; (with_reducible repeat (first | refine zaj ?_ _ | refine zak ?_ | refine zai ?_ _)); refine zaD ?_ NB214_216.out _; (with_reducible repeat (first | refine zaj ?_ _ | refine zak ?_ | refine zai ?_ _)); exact BK214.out) hg (by simp [Value.ownBlock])); have n3_ := zaa.mk (zbe (g := gb216) (o := .cells #[.int .i64 ((zah l0_0 x8_1).f0), .slice A215_1 ((zah l0_0 x8_1).f1).length c215_1, .slice A215_2 ((zah l0_0 x8_1).f2).length c215_2, .string ((zah l0_0 x8_1).f3), .int .i64 ((zah l0_0 x8_1).f4), .int .i64 ((zah l0_0 x8_1).f5)] 40 (0, 0)) (by (with_reducible repeat (first | refine zaj ?_ _ | refine zak ?_ | refine zai ?_ _)); refine zaP (cs := #[.int .i64 ((zah l0_0 x8_1).f0), .slice A215_1 ((zah l0_0 x8_1).f1).length c215_1, .slice A215_2 ((zah l0_0 x8_1).f2).length c215_2, .string ((zah l0_0 x8_1).f3), .int .i64 ((zah l0_0 x8_1).f4), .int .i64 0]) ?_ 5 _ rfl; (with_reducible repeat (first | refine zaj ?_ _ | refine zak ?_ | refine zai ?_ _)); refine zaP (cs := #[.int .i64 ((zah l0_0 x8_1).f0), .slice A215_1 ((zah l0_0 x8_1).f1).length c215_1, .slice A215_2 ((zah l0_0 x8_1).f2).length c215_2, .string ((zah l0_0 x8_1).f3), .int .i64 0, .int .i64 0]) ?_ 4 _ rfl; (with_reducible repeat (first | refine zaj ?_ _ | refine zak ?_ | refine zai ?_ _)); refine zaP (cs := #[.int .i64 ((zah l0_0 x8_1).f0), .slice A215_1 ((zah l0_0 x8_1).f1).length c215_1, .slice A215_2 ((zah l0_0 x8_1).f2).length c215_2, .string (⟨#[]⟩ : ByteArray), .int .i64 0, .int .i64 0]) ?_ 3 _ rfl; (with_reducible repeat (first | refine zaj ?_ _ | refine zak ?_ | refine zai ?_ _)); refine zaP (cs := #[.int .i64 ((zah l0_0 x8_1).f0), .slice A215_1 ((zah l0_0 x8_1).f1).length c215_1, .slice none 0 0, .string (⟨#[]⟩ : ByteArray), .int .i64 0, .int .i64 0]) ?_ 2 _ rfl; (with_reducible repeat (first | refine zaj ?_ _ | refine zak ?_ | refine zai ?_ _)); refine zaP (cs := #[.int .i64 ((zah l0_0 x8_1).f0), .slice none 0 0, .slice none 0 0, .string (⟨#[]⟩ : ByteArray), .int .i64 0, .int .i64 0]) ?_ 1 _ rfl; (with_reducible repeat (first | refine zaj ?_ _ | refine zak ?_ | refine zai ?_ _)); refine zaP (cs := #[.int .i64 0, .slice none 0 0, .slice none 0 0, .string (⟨#[]⟩ : ByteArray), .int .i64 0, .int .i64 0]) ?_ 0 _ rfl; (with_reducible repeat (first | refine zaj ?_ _ | refine zak ?_ | refine zai ?_ _)); exact BK216.out) hg (by simp [Value.ownBlock])); have n4_ := zaa.mk (hb); have n5_ := zaa.mk (ho); clear HO_215000; clear BK213; clear BK214; clear BK216; clear HB; have HO_215000 := n0_; have BK213 := n1_; have BK214 := n2_; have BK216 := n3_; have HB := n4_; have HO219 := n5_; clear n0_ n1_ n2_ n3_ n4_ n5_; clear ho hb hg hat; obtain ⟨Ao17, co17, eo17⟩ := Kd.zbP HO219.out; subst eo17; have hcz18_0 : w16.cell? ⟨gb216, 0, none⟩ = some (.int .i64 ((zah l0_0 x8_1).f0)) := (zac BK216.out 0).trans rfl; have hcz18_1 : w16.cell? ⟨gb216, 1, none⟩ = some (.slice A215_1 ((zah l0_0 x8_1).f1).length c215_1) := (zac BK216.out 1).trans rfl; have hcz18_2 : w16.cell? ⟨gb216, 2, none⟩ = some (.slice A215_2 ((zah l0_0 x8_1).f2).length c215_2) := (zac BK216.out 2).trans rfl; have hcz18_3 : w16.cell? ⟨gb216, 3, none⟩ = some (.string ((zah l0_0 x8_1).f3)) := (zac BK216.out 3).trans rfl; have hcz18_4 : w16.cell? ⟨gb216, 4, none⟩ = some (.int .i64 ((zah l0_0 x8_1).f4)) := (zac BK216.out 4).trans rfl; have hcz18_5 : w16.cell? ⟨gb216, 5, none⟩ = some (.int .i64 ((zah l0_0 x8_1).f5)) := (zac BK216.out 5).trans rfl; have hfz18_0 := zaf BK216.out 0; have hfz18_1 := zaf BK216.out 1; have hfz18_2 := zaf BK216.out 2; have hfz18_3 := zaf BK216.out 3; have hfz18_4 := zaf BK216.out 4; have hfz18_5 := zaf BK216.out 5) | ((with_reducible refine zce (b := .append) (xs := #[.const (.slice none 0 0), .tmp 17]) rfl ?_); at_builtin; refine Kd.R_append_rows k50 (w0 := w) w.heap.size rfl (.const (.slice none 0 0)) (.tmp 17) 38 50 (.agg #[(.string ⟨#[]⟩), (.int .i64 0)]) 24 rfl Tryz.underlying38 info50 rfl (by decide) (by omega) (.slice none 0 0) ([] : List (S50)) ((zah l0_0 x8_1).f2) _ _ _ (fun _ => True) (fun _ => False) rfl rfl ?aO ?aR (fun _ _ h => h) (fun _ h => h.elim) ?aF ?aB ?aS ?aL ?_; (case aR => exact Kd.C_below HR215_2.out (by repeat (first | (with_reducible first | exact HB.out | apply zad | apply zab | apply zae | refine zal ?_ GE213.out | refine zal ?_ GE214.out | refine zal ?_ GE216.out) | exact HB.out))); (case aB => exact (by repeat (first | (with_reducible first | exact HB.out | apply zad | apply zab | apply zae | refine zal ?_ GE213.out | refine zal ?_ GE214.out | refine zal ?_ GE216.out) | exact HB.out))); (case aF => exact (fun _ _ => trivial)); (case aO => exact ((Kd.R_nil _ _ _ _ (fun _ => True)))); (case aS => exact (zar (by repeat (first | (with_reducible first | exact HB.out | apply zad | apply zab | apply zae | refine zal ?_ GE213.out | refine zal ?_ GE214.out | refine zal ?_ GE216.out) | exact HB.out)))); (case aL => have := LMc10.out; omega); intro v221 w19 ho hb hg hat; rw [← Ny220.out] at ho; have n0_ := zaa.mk (Kd.S_after (Kd.S_apart_nil (by (with_reducible repeat (first | apply Kd.zbn | apply Kd.zbp | apply Kd.zbC)); exact (Kd.zbt (Kd.S_far (p := ⟨gb216, 1, none⟩) (Kd.zbt HO_215000.out (fun k_ hk => (⟨hk, hk.1.2⟩ : _ ∧ k_ ≠ gb216))) (fun _ hk => hk.2) (.slice Ao17 y217.length co17)) (fun _ h_ => h_.1)))) hg hat); have n1_ := zaa.mk (zbe (g := gb213) (o := .cells #[.slice (some ad215) l0_0.length c0_0] 24 (0, 0)) (by (with_reducible repeat (first | refine zaj ?_ _ | refine zak ?_ | refine zai ?_ _)); refine zaD ?_ NB213_216.out _; (with_reducible repeat (first | refine zaj ?_ _ | refine zak ?_ | refine zai ?_ _)); exact BK213.out) hg (by simp [Value.ownBlock])); have n2_ := zaa.mk (zbe (g := gb214) (o := .cells #[u215000] 24 (0, 0)) (by (with_reducible repeat (first | refine zaj ?_ _ | refine zak ?_ | refine zai ?_ _)); refine zaD ?_ NB214_216.out _; (with_reducible repeat (first | refine zaj ?_ _ | refine zak ?_ | refine zai ?_ _)); exact BK214.out) hg (by simp [Value.ownBlock])); have n3_ := zaa.mk (zbe (g := gb216) (o := .cells #[.int .i64 ((zah l0_0 x8_1).f0), .slice Ao17 y217.length co17, .slice A215_2 ((zah l0_0 x8_1).f2).length c215_2, .string ((zah l0_0 x8_1).f3), .int .i64 ((zah l0_0 x8_1).f4), .int .i64 ((zah l0_0 x8_1).f5)] 40 (0, 0)) (by (with_reducible repeat (first | refine zaj ?_ _ | refine zak ?_ | refine zai ?_ _)); refine zaP (cs := #[.int .i64 ((zah l0_0 x8_1).f0), .slice A215_1 ((zah l0_0 x8_1).f1).length c215_1, .slice A215_2 ((zah l0_0 x8_1).f2).length c215_2, .string ((zah l0_0 x8_1).f3), .int .i64 ((zah l0_0 x8_1).f4), .int .i64 ((zah l0_0 x8_1).f5)]) ?_ 1 _ rfl; (with_reducible repeat (first | refine zaj ?_ _ | refine zak ?_ | refine zai ?_ _)); exact BK216.out) hg (by simp [Value.ownBlock])); have n4_ := zaa.mk (Kd.R_grown (by (with_reducible repeat (first | apply Kd.zbA | apply Kd.zbH | apply Kd.zca)); exact (Kd.zbj (Kd.R_far (p := ⟨gb216, 1, none⟩) (Kd.zch HO219.out BK216.out (by decide)) (fun _ hk => hk.2) (.slice Ao17 y217.length co17)) (fun _ h_ => h_.1))) hg (fun _ _ => by simp [Value.ownBlock])); have n5_ := zaa.mk (hb); have n6_ := zaa.mk (ho); clear HO_215000; clear BK213; clear BK214; clear BK216; clear HO219; clear HB; have HO_215000 := n0_; have BK213 := n1_; have BK214 := n2_; have BK216 := n3_; have HO219 := n4_; have HB := n5_; have HO222 := n6_; clear n0_ n1_ n2_ n3_ n4_ n5_ n6_; clear ho hb hg hat; obtain ⟨Ao20, co20, eo20⟩ := Kd.zbP HO222.out; subst eo20; have hcz21_0 : w19.cell? ⟨gb216, 0, none⟩ = some (.int .i64 ((zah l0_0 x8_1).f0)) := (zac BK216.out 0).trans rfl; have hcz21_1 : w19.cell? ⟨gb216, 1, none⟩ = some (.slice Ao17 y217.length co17) := (zac BK216.out 1).trans rfl; have hcz21_2 : w19.cell? ⟨gb216, 2, none⟩ = some (.slice A215_2 ((zah l0_0 x8_1).f2).length c215_2) := (zac BK216.out 2).trans rfl; have hcz21_3 : w19.cell? ⟨gb216, 3, none⟩ = some (.string ((zah l0_0 x8_1).f3)) := (zac BK216.out 3).trans rfl; have hcz21_4 : w19.cell? ⟨gb216, 4, none⟩ = some (.int .i64 ((zah l0_0 x8_1).f4)) := (zac BK216.out 4).trans rfl; have hcz21_5 : w19.cell? ⟨gb216, 5, none⟩ = some (.int .i64 ((zah l0_0 x8_1).f5)) := (zac BK216.out 5).trans rfl; have hfz21_0 := zaf BK216.out 0; have hfz21_1 := zaf BK216.out 1; have hfz21_2 := zaf BK216.out 2; have hfz21_3 := zaf BK216.out 3; have hfz21_4 := zaf BK216.out 4; have hfz21_5 := zaf BK216.out 5) | ((with_reducible refine gate_store (t := 38) (p := 19) rfl ?_); refine store_event (t := 38) (p := 19) (v := ?vo_w22) (w1 := (w19.setCell ⟨gb216, 2, none⟩ (.slice Ao20 y220.length co20))) ?hg ?ho ?hn ?hr ?_; (case ho => rfl); (case hg => rfl); (case hn => rfl); (case hr => first | (go_simp; done) | (go_simp; rfl)); intro w22 hw; have n0_ : zaa (Kd.S k40 40 w22 w.heap.size (fun k_ => some k_ ≠ (.slice Ao17 y217.length co17 : Value).ownBlock ∧ some k_ ≠ (.slice Ao20 y220.length co20 : Value).ownBlock ∧ k_ ≠ gb216) u215000 x215000_1) := ⟨(by rw [hw]; exact (by (with_reducible repeat (first | apply Kd.zbn | apply Kd.zbp | apply Kd.zbC)); exact Kd.zbt (Kd.S_far (p := ⟨gb216, 2, none⟩) (Kd.zbt HO_215000.out (fun k_ hk => (⟨hk, hk.1.1.2⟩ : _ ∧ k_ ≠ gb216))) (fun _ hk => hk.2) (.slice Ao20 y220.length co20)) (fun _ hk => ⟨hk.1.1.2, ⟨hk.1.2, hk.1.1.1.2⟩⟩)))⟩; have n1_ : zaa (Kd.R (Kd.int .u8) 5 w22 w.heap.size (fun _ => True) (.slice Ao17 y217.length co17) y217) := ⟨(by rw [hw]; exact (by (with_reducible repeat (first | apply Kd.zbA | apply Kd.zbH | apply Kd.zca)); exact Kd.zbj (Kd.R_far (p := ⟨gb216, 2, none⟩) (Kd.zch HO219.out BK216.out (by decide)) (fun _ hk => hk.2) (.slice Ao20 y220.length co20)) (fun _ hk => trivial)))⟩; have n2_ : zaa (Kd.R k50 50 w22 w.heap.size (fun _ => True) (.slice Ao20 y220.length co20) y220) := ⟨(by rw [hw]; exact (by (with_reducible repeat (first | apply Kd.zbA | apply Kd.zbH | apply Kd.zca)); exact Kd.zbj (Kd.R_far (p := ⟨gb216, 2, none⟩) (Kd.zch HO222.out BK216.out (by decide)) (fun _ hk => hk.2) (.slice Ao20 y220.length co20)) (fun _ hk => trivial)))⟩; have n3_ : zaa (w22.heap[gb213]? = some (.cells #[.slice (some ad215) l0_0.length c0_0] 24 (0, 0))) := ⟨(by rw [hw]; exact (by (with_reducible repeat (first | refine zaj ?_ _ | refine zak ?_ | refine zai ?_ _)); refine zaD ?_ NB213_216.out _; (with_reducible repeat (first | refine zaj ?_ _ | refine zak ?_ | refine zai ?_ _)); exact BK213.out))⟩; have n4_ : zaa (w22.heap[gb214]? = some (.cells #[u215000] 24 (0, 0))) := ⟨(by rw [hw]; exact (by (with_reducible repeat (first | refine zaj ?_ _ | refine zak ?_ | refine zai ?_ _)); refine zaD ?_ NB214_216.out _; (with_reducible repeat (first | refine zaj ?_ _ | refine zak ?_ | refine zai ?_ _)); exact BK214.out))⟩; have n5_ : zaa (w22.heap[gb216]? = some (.cells #[.int .i64 ((zah l0_0 x8_1).f0), .slice Ao17 y217.length co17, .slice Ao20 y220.length co20, .string ((zah l0_0 x8_1).f3), .int .i64 ((zah l0_0 x8_1).f4), .int .i64 ((zah l0_0 x8_1).f5)] 40 (0, 0))) := ⟨(by rw [hw]; exact (by (with_reducible repeat (first | refine zaj ?_ _ | refine zak ?_ | refine zai ?_ _)); refine zaP (cs := #[.int .i64 ((zah l0_0 x8_1).f0), .slice Ao17 y217.length co17, .slice A215_2 ((zah l0_0 x8_1).f2).length c215_2, .string ((zah l0_0 x8_1).f3), .int .i64 ((zah l0_0 x8_1).f4), .int .i64 ((zah l0_0 x8_1).f5)]) ?_ 2 _ rfl; (with_reducible repeat (first | refine zaj ?_ _ | refine zak ?_ | refine zai ?_ _)); exact BK216.out))⟩; have n6_ : zaa (Below w.heap.size w w22) := ⟨(by rw [hw]; exact (by repeat (first | (with_reducible first | exact HB.out | apply zad | apply zab | apply zae | refine zal ?_ GE213.out | refine zal ?_ GE214.out | refine zal ?_ GE216.out) | exact HB.out)))⟩; clear hw; clear HO_215000; clear HO219; clear HO222; clear BK213; clear BK214; clear BK216; clear HB; have HO_215000 := n0_; have HO219 := n1_; have HO222 := n2_; have BK213 := n3_; have BK214 := n4_; have BK216 := n5_; have HB := n6_; clear n0_ n1_ n2_ n3_ n4_ n5_ n6_; have hnb23 := NB214_213.out; have hnc23 := NB213_214.out; have hcz24_0 : w22.cell? ⟨gb214, 0, none⟩ = some (u215000) := (zac BK214.out 0).trans rfl; have hfz24_0 := zaf BK214.out 0; have hcz25_0 : w22.cell? ⟨gb216, 0, none⟩ = some (.int .i64 ((zah l0_0 x8_1).f0)) := (zac BK216.out 0).trans rfl; have hcz25_1 : w22.cell? ⟨gb216, 1, none⟩ = some (.slice Ao17 y217.length co17) := (zac BK216.out 1).trans rfl; have hcz25_2 : w22.cell? ⟨gb216, 2, none⟩ = some (.slice Ao20 y220.length co20) := (zac BK216.out 2).trans rfl; have hcz25_3 : w22.cell? ⟨gb216, 3, none⟩ = some (.string ((zah l0_0 x8_1).f3)) := (zac BK216.out 3).trans rfl; have hcz25_4 : w22.cell? ⟨gb216, 4, none⟩ = some (.int .i64 ((zah l0_0 x8_1).f4)) := (zac BK216.out 4).trans rfl; have hcz25_5 : w22.cell? ⟨gb216, 5, none⟩ = some (.int .i64 ((zah l0_0 x8_1).f5)) := (zac BK216.out 5).trans rfl; have hfz25_0 := zaf BK216.out 0; have hfz25_1 := zaf BK216.out 1; have hfz25_2 := zaf BK216.out 2; have hfz25_3 := zaf BK216.out 3; have hfz25_4 := zaf BK216.out 4; have hfz25_5 := zaf BK216.out 5) | ((with_reducible refine zce (b := .append) (xs := #[.tmp 21, .tmp 23]) rfl ?_); at_builtin; refine Kd.S_append k40 (w0 := w) w.heap.size rfl (.tmp 21) (.tmp 23) 22 40 (.agg #[(.int .i64 0), (.slice none 0 0), (.slice none 0 0), (.string ⟨#[]⟩), (.int .i64 0), (.int .i64 0)]) 88 rfl Tryz.underlying22 info40 rfl (by decide) (by omega) u215000 x215000_1 (⟨(zah l0_0 x8_1).f0, y217, y220, (zah l0_0 x8_1).f3, (zah l0_0 x8_1).f4, (zah l0_0 x8_1).f5⟩ : S40) [.int .i64 ((zah l0_0 x8_1).f0), .slice Ao17 y217.length co17, .slice Ao20 y220.length co20, .string ((zah l0_0 x8_1).f3), .int .i64 ((zah l0_0 x8_1).f4), .int .i64 ((zah l0_0 x8_1).f5)] (fun k_ => k_ ≠ gb216) (fun k_ => some k_ = (.slice Ao17 y217.length co17 : Value).ownBlock ∨ some k_ = (.slice Ao20 y220.length co20 : Value).ownBlock) rfl rfl ?aP (fun k_ hk_ => hk_.elim (fun h_ => ((Kd.zbj (ok' := fun k_ => ((fun k_ => k_ ≠ gb216)) k_ ∧ some k_ ≠ (u215000 : Value).ownBlock) (Kd.zch (Kd.zcx (HO219.out) (Kd.S_typed HO_215000.out) (by decide)) BK216.out (by decide)) (fun k_ hk => ⟨hk.2, hk.1.2⟩))).1 k_ h_.symm) (fun h_ => ((Kd.zbj (ok' := fun k_ => ((fun k_ => k_ ≠ gb216)) k_ ∧ some k_ ≠ (u215000 : Value).ownBlock) (Kd.zch (Kd.zcx (HO222.out) (Kd.S_typed HO_215000.out) (by decide)) BK216.out (by decide)) (fun k_ hk => ⟨hk.2, hk.1.2⟩))).1 k_ h_.symm)) ?aF ?aO ?aB ?aS ?aL ?_; (case aP => exact zcg _ _ _ (⟨(zah l0_0 x8_1).f0, y217, y220, (zah l0_0 x8_1).f3, (zah l0_0 x8_1).f4, (zah l0_0 x8_1).f5⟩ : S40) (Kd.zbj (Kd.R_tight rfl (Kd.zbj (ok' := fun k_ => ((fun k_ => k_ ≠ gb216)) k_ ∧ some k_ ≠ (u215000 : Value).ownBlock) (Kd.zch (Kd.zcx (HO219.out) (Kd.S_typed HO_215000.out) (by decide)) BK216.out (by decide)) (fun k_ hk => ⟨hk.2, hk.1.2⟩))) (fun _ h_ => Or.inl h_)) (Kd.zbj (Kd.R_tight rfl (Kd.zbj (ok' := fun k_ => ((fun k_ => k_ ≠ gb216)) k_ ∧ some k_ ≠ (u215000 : Value).ownBlock) (Kd.zch (Kd.zcx (HO222.out) (Kd.S_typed HO_215000.out) (by decide)) BK216.out (by decide)) (fun k_ hk => ⟨hk.2, hk.1.2⟩))) (fun _ h_ => Or.inr (h_)))); (case aB => exact (by repeat (first | (with_reducible first | exact HB.out | apply zad | apply zab | apply zae | refine zal ?_ GE213.out | refine zal ?_ GE214.out | refine zal ?_ GE216.out) | exact HB.out))); (case aF => exact (fun k_ hk => Kd.freshB (g := gb216) (o := .cells #[.int .i64 ((zah l0_0 x8_1).f0), .slice Ao17 y217.length co17, .slice Ao20 y220.length co20, .string ((zah l0_0 x8_1).f3), .int .i64 ((zah l0_0 x8_1).f4), .int .i64 ((zah l0_0 x8_1).f5)] 40 (0, 0)) (by (with_reducible repeat (first | refine zaj ?_ _ | refine zak ?_ | refine zai ?_ _)); exact BK216.out) k_ hk)); (case aO => exact (by (with_reducible repeat (first | apply Kd.zbn | apply Kd.zbp | apply Kd.zbC)); exact Kd.zbt HO_215000.out (fun k_ hk => ⟨hk.2.2, fun e_ => e_.elim (fun h_ => hk.1 h_) (fun h_ => hk.2.1 h_)⟩))); (case aS => exact (zar (by repeat (first | (with_reducible first | exact HB.out | apply zad | apply zab | apply zae | refine zal ?_ GE213.out | refine zal ?_ GE214.out | refine zal ?_ GE216.out) | exact HB.out)))); (case aL => have := LMc11.out; omega); intro v224 w26 ho hb hg hat; rw [← Ny223.out] at ho; have n0_ := zaa.mk (zbe (g := gb213) (o := .cells #[.slice (some ad215) l0_0.length c0_0] 24 (0, 0)) (by (with_reducible repeat (first | refine zaj ?_ _ | refine zak ?_ | refine zai ?_ _)); exact BK213.out) hg (Kd.S_ne HO_215000.out BK213.out (by decide))); have n1_ := zaa.mk (zbe (g := gb214) (o := .cells #[u215000] 24 (0, 0)) (by (with_reducible repeat (first | refine zaj ?_ _ | refine zak ?_ | refine zai ?_ _)); exact BK214.out) hg (Kd.S_ne HO_215000.out BK214.out (by decide))); have n2_ := zaa.mk (zbe (g := gb216) (o := .cells #[.int .i64 ((zah l0_0 x8_1).f0), .slice Ao17 y217.length co17, .slice Ao20 y220.length co20, .string ((zah l0_0 x8_1).f3), .int .i64 ((zah l0_0 x8_1).f4), .int .i64 ((zah l0_0 x8_1).f5)] 40 (0, 0)) (by (with_reducible repeat (first | refine zaj ?_ _ | refine zak ?_ | refine zai ?_ _)); exact BK216.out) hg (Kd.S_away HO_215000.out (fun _ hk => hk.2.2))); have n3_ := zaa.mk (hb); have n4_ := zaa.mk (ho); clear BK213; clear BK214; clear BK216; clear HB; clear HO_215000; clear HO219; clear HO222; have BK213 := n0_; have BK214 := n1_; have BK216 := n2_; have HB := n3_; have HO225 := n4_; clear n0_ n1_ n2_ n3_ n4_; clear ho hb hg hat; obtain ⟨Ao27, co27, eo27⟩ := Kd.zbG HO225.out; subst eo27; have hcz28_0 : w26.cell? ⟨gb214, 0, none⟩ = some (u215000) := (zac BK214.out 0).trans rfl; have hfz28_0 := zaf BK214.out 0))
         go_roundg k1
         case measure => have := HK1.out; omega
         case rel => exact ⟨(wrap64 (x8_1 + 1)), (y223), (.slice Ao27 y223.length co27), (by first | rfl | (simp; done) | (simp [*]; done)), H', ⟨by have := HK1.out; omega⟩, ⟨by (with_reducible repeat (first | apply Kd.zbn | apply Kd.zbp | apply Kd.zbC)); exact Kd.zbt (Kd.S_far (p := ⟨gb214, 0, none⟩) (Kd.S_types HO225.out BK214.out (by decide)) (fun _ hk => hk.2) (.slice Ao27 y223.length co27)) (fun _ hk => trivial)⟩, ⟨by (with_reducible repeat (first | refine zaj ?_ _ | refine zak ?_ | refine zai ?_ _)); refine zaD ?_ NB213_214.out _; (with_reducible repeat (first | refine zaj ?_ _ | refine zak ?_ | refine zai ?_ _)); exact BK213.out⟩, ⟨by (with_reducible repeat (first | refine zaj ?_ _ | refine zak ?_ | refine zai ?_ _)); refine zaP (cs := #[u215000]) ?_ 0 _ rfl; (with_reducible repeat (first | refine zaj ?_ _ | refine zak ?_ | refine zai ?_ _)); exact BK214.out⟩, ⟨by repeat (first | (with_reducible first | exact HB.out | apply zad | apply zab | apply zae | refine zal ?_ GE213.out | refine zal ?_ GE214.out | refine zal ?_ GE216.out) | exact HB.out)⟩⟩
        ·rw [if_neg c11] at H
         exact absurd H (by simp)
       ·rw [if_neg c10] at H
        exact absurd H (by simp)
      ·rw [if_neg c9] at H
       exact absurd H (by simp)
     ·rw [if_neg c8] at H
      exact absurd H (by simp)
    ·rw [if_neg c7] at H
     exact absurd H (by simp)
   ·rw [if_neg c6] at H
    have c6b0 : decide (x8_1 < (l0_0.length : Int)) = false := decide_eq_false c6
    clear c6
    obtain rfl := Option.some.inj H
    have hnb29 := NB214_213.out
    have hnc29 := NB213_214.out
    have hcz30_0 := (zac BK214.out 0).trans rfl
    have hfz30_0 := zaf BK214.out 0
    obtain ⟨Ao31, co31, eo31⟩ := Kd.zbG HO_215000.out
    subst eo31
    go_wp2
    refine bodyPost_ret (results_cell_row rfl _ _ gb214 24 #[.slice Ao31 x215000_1.length co31] (0, 0) _ rfl (by (with_reducible repeat (first | refine zaj ?_ _ | refine zak ?_ | refine zai ?_ _)); refine zaP (cs := #[.slice Ao31 x215000_1.length co31]) ?_ 0 _ rfl; (with_reducible repeat (first | refine zaj ?_ _ | refine zak ?_ | refine zai ?_ _)); exact BK214.out) Tryz.underlying24 rfl (by kernel_rfl)) rfl ?_
    exact ⟨_, by first | rfl | (simp [zaw, zav] <;> rfl) | (simp [*, zaw, zav] <;> rfl), by (with_reducible repeat (first | apply Kd.zbn | apply Kd.zbp | apply Kd.zbC)); exact Kd.zbt (Kd.S_far (p := ⟨gb214, 0, none⟩) (Kd.S_types HO_215000.out BK214.out (by decide)) (fun _ hk => hk.2) (.slice Ao31 x215000_1.length co31)) (fun _ hk => trivial), by repeat (first | (with_reducible first | exact HB.out | apply zad | apply zab | apply zae | refine zal ?_ GE213.out | refine zal ?_ GE214.out) | exact HB.out)⟩
def zbw.f (k : Nat) (l0_0 : List (S40)) (a1 : Int) : Option ((List (S40)) × Int) := if a1 = 100 then ((zaH.f k l0_0).bind fun t228 => (if t228 = true then ((zaZ.f k l0_0).bind fun t229 => (some (t229, a1))) else (some (([] : List (S40)), a1)))) else ((zaZ.f k l0_0).bind fun t232 => (some (t232, a1)))
theorem zbw.mono : ∀ a0 a1 k, LeO (zbw.f k a0 a1) (zbw.f (k + 1) a0 a1) := by
 intro a0 a1 k
 unfold zbw.f
 repeat' first
   | (with_reducible exact zaH.mono _ _)
   | (with_reducible exact zaZ.mono _ _)
   | (with_reducible exact LeO.refl _)
   | (with_reducible exact LeO.none _)
   | (with_reducible refine LeO.ite ?_ ?_)
   | (with_reducible refine LeO.bind ?_ (fun _ => ?_))
   | exact zaH.mono _ _
   | exact zaZ.mono _ _
   | exact LeO.none _
   | refine LeO.ite ?_ ?_
   | refine LeO.bind ?_ (fun _ => ?_)
set_option maxHeartbeats 8000000 in
set_option maxRecDepth 100000 in
theorem zbw.calls (k : Nat) (A0_0 : Option Addr) (c0_0 : Nat) (l0_0 : List (S40)) (a1 : Int) (r1 : List (S40)) (r2 : Int) (w : World) (hr0_0 : Kd.C k40 w A0_0 l0_0.length l0_0) (hc0_0 : l0_0.length ≤ c0_0) (h : zbw.f k l0_0 a1 = some (r1, r2)) :
  Calls Tryz.prog 68 #[.agg #[.slice A0_0 l0_0.length c0_0], .int .i64 a1] w fun e w' => ∃ v0_ : Value, e = .returned (.tuple #[.agg #[v0_], .int .i64 r2]) ∧ Kd.S k40 40 w' w.heap.size (fun _ => True) v0_ r1 ∧ Below w.heap.size w w' := by
 have hu24 := Tryz.underlying24
 have HR0_0 := zaa.mk hr0_0
 have HC0_0 := zaa.mk hc0_0
 clear hr0_0 hc0_0
 have HB := zaa.mk (Below.refl w.heap.size w)
 have H : (if a1 = 100 then ((zaH.f k l0_0).bind fun t228 => (if t228 = true then ((zaZ.f k l0_0).bind fun t229 => (some (t229, a1))) else (some (([] : List (S40)), a1)))) else ((zaZ.f k l0_0).bind fun t232 => (some (t232, a1)))) = some (r1, r2) := h
 clear h
 by_cases c3 : a1 = 100
 ·rw [if_pos c3] at H
  have c3b0 : (a1 == 100) = true := beq_iff_eq.mpr c3
  have c3b1 : (a1 != 100) = false := bne_eq_false_iff_eq.mpr c3
  clear c3
  replace H := Option.bind_eq_some_iff.mp H
  obtain ⟨t228, A40, H⟩ := H
  replace H : (if t228 = true then ((zaZ.f k l0_0).bind fun t229 => (some (t229, a1))) else (some (([] : List (S40)), a1))) = some (r1, r2) := H
  have A4 := zaa.mk A40
  clear A40
  by_cases c5 : t228 = true
  ·subst c5
   have H1 : ((zaZ.f k l0_0).bind fun t229 => (some (t229, a1))) = some (r1, r2) := by rw [if_pos rfl] at H; exact H
   clear H
   have H := H1
   clear H1
   replace H := Option.bind_eq_some_iff.mp H
   obtain ⟨t229, A60, H⟩ := H
   replace H : (some (t229, a1)) = some (r1, r2) := H
   have A6 := zaa.mk A60
   clear A60
   simp only [Option.some.injEq, Prod.mk.injEq] at H
   obtain ⟨rfl, rfl⟩ := H
   go_enter Tryz.func68, Tryz.ntmps68
   go_wp2_with (first | ((with_reducible refine zaS (N := 2) rfl ?_); refine zaG ?hg (N := 2) ?hd (cs := #[.slice A0_0 l0_0.length c0_0]) (t := 24) ?hr ?_; (case hd => rfl); (case hg => rfl); (case hr => first | (go_simp; done) | (go_simp; rfl)); intro gb226 hg w7 hbox hb; have n0_ := zaa.mk (zam (by repeat (first | (with_reducible first | exact HB.out | apply zad | apply zab | apply zae) | exact HB.out)) hb); have n1_ := zaa.mk (hbox); have n2_ := zaa.mk ((by rw [hg]; exact (zar (by repeat (first | (with_reducible first | exact HB.out | apply zad | apply zab | apply zae) | exact HB.out))) : w.heap.size ≤ gb226)); have n3_ := zaa.mk ((by rw [hg]; exact (zar (by repeat (first | (with_reducible first | exact HB.out | apply zad | apply zab | apply zae) | exact HB.out))) : w.heap.size ≤ gb226)); clear HB; have HB := n0_; have BK226 := n1_; have GW226 := n2_; have GE226 := n3_; clear n0_ n1_ n2_ n3_; clear hb hbox hg) | ((with_reducible refine zaS (N := 4) rfl ?_); refine zaG ?hg (N := 4) ?hd (cs := #[.slice none 0 0]) (t := 24) ?hr ?_; (case hd => rfl); (case hg => rfl); (case hr => first | (go_simp; done) | (go_simp; rfl)); intro gb227 hg w8 hbox hb; have n0_ := zaa.mk (zan (g := gb226) (o := .cells #[.slice A0_0 l0_0.length c0_0] 24 (0, 0)) (by (with_reducible repeat (first | refine zaj ?_ _ | refine zak ?_ | refine zai ?_ _)); exact BK226.out) hb); have n1_ := zaa.mk (zam (by repeat (first | (with_reducible first | exact HB.out | apply zad | apply zab | apply zae | refine zal ?_ GE226.out) | exact HB.out)) hb); have n2_ := zaa.mk (hbox); have n3_ := zaa.mk ((by rw [hg]; exact (zar (by repeat (first | (with_reducible first | exact HB.out | apply zad | apply zab | apply zae | refine zal ?_ GE226.out) | exact HB.out))) : w.heap.size ≤ gb227)); have n4_ := zaa.mk ((by rw [hg]; exact (zar (by repeat (first | (with_reducible first | exact HB.out | apply zad | apply zab | apply zae | refine zal ?_ GE226.out) | exact HB.out))) : w.heap.size ≤ gb227)); have n5_ := zaa.mk ((by rw [hg]; exact Nat.ne_of_lt (zaO (g := gb226) (o := .cells #[.slice A0_0 l0_0.length c0_0] 24 (0, 0)) (by (with_reducible repeat (first | refine zaj ?_ _ | refine zak ?_ | refine zai ?_ _)); exact BK226.out)) : gb226 ≠ gb227)); have n6_ := zaa.mk ((by rw [hg]; exact Nat.ne_of_gt (zaO (g := gb226) (o := .cells #[.slice A0_0 l0_0.length c0_0] 24 (0, 0)) (by (with_reducible repeat (first | refine zaj ?_ _ | refine zak ?_ | refine zai ?_ _)); exact BK226.out)) : gb227 ≠ gb226)); clear BK226; clear HB; have BK226 := n0_; have HB := n1_; have BK227 := n2_; have GW227 := n3_; have GE227 := n4_; have NB226_227 := n5_; have NB227_226 := n6_; clear n0_ n1_ n2_ n3_ n4_ n5_ n6_; clear hb hbox hg; have hnb9 := NB226_227.out; have hnc9 := NB227_226.out; have hcz10_0 : w8.cell? ⟨gb226, 0, none⟩ = some (.slice A0_0 l0_0.length c0_0) := (zac BK226.out 0).trans rfl; have hfz10_0 := zaf BK226.out 0) | (go_at_call 25; (with_reducible refine (zaH.calls k _ _ l0_0 true _ ?side1 ?side2 A4.out).mono ?_); (case side1 => repeat (first | exact (Kd.C_below HR0_0.out HB.out) | (with_reducible refine Kd.C_alloc ?_ _) | (with_reducible refine Kd.C_drewN ?_ _) | (with_reducible refine Kd.C_drew ?_))); (case side2 => exact HC0_0.out); rintro e w11 ⟨rfl, hb⟩; have n0_ := zaa.mk (zan (g := gb226) (o := .cells #[.slice A0_0 l0_0.length c0_0] 24 (0, 0)) (by (with_reducible repeat (first | refine zaj ?_ _ | refine zak ?_ | refine zai ?_ _)); exact BK226.out) hb); have n1_ := zaa.mk (zan (g := gb227) (o := .cells #[.slice none 0 0] 24 (0, 0)) (by (with_reducible repeat (first | refine zaj ?_ _ | refine zak ?_ | refine zai ?_ _)); exact BK227.out) hb); have n2_ := zaa.mk (zam (by repeat (first | (with_reducible first | exact HB.out | apply zad | apply zab | apply zae | refine zal ?_ GE226.out | refine zal ?_ GE227.out) | exact HB.out)) hb); clear BK226; clear BK227; clear HB; have BK226 := n0_; have BK227 := n1_; have HB := n2_; clear n0_ n1_ n2_; (try clear hb); (try clear hb2); (try clear hk); (try clear hi); have hcz12_0 : w11.cell? ⟨gb226, 0, none⟩ = some (.slice A0_0 l0_0.length c0_0) := (zac BK226.out 0).trans rfl; have hfz12_0 := zaf BK226.out 0) | ((with_reducible refine zaY (f := 71) rfl ?_); refine zbI (some 16) rfl rfl Tryz.func71 (by kernel_rfl) rfl #[.agg #[.slice A0_0 l0_0.length c0_0]] rfl (by (try simp only [List.map_toArray, List.map_cons, List.map_nil]); first | done | rfl | (simp only [List.length_drop, List.length_take]; rfl)) ?_; (with_reducible refine (zaZ.calls k _ _ l0_0 t229 _ ?side1 ?side2 A6.out).mono ?_); (case side1 => repeat (first | exact (Kd.C_below HR0_0.out HB.out) | (with_reducible refine Kd.C_alloc ?_ _) | (with_reducible refine Kd.C_drewN ?_ _) | (with_reducible refine Kd.C_drew ?_))); (case side2 => exact HC0_0.out); rintro e w13 ⟨v230, rfl, ho0, hb⟩; refine ⟨_, rfl, ?_⟩; have n0_ := zaa.mk (Kd.zbD ho0 (zar (by repeat (first | (with_reducible first | exact HB.out | apply zad | apply zab | apply zae | refine zal ?_ GE226.out | refine zal ?_ GE227.out) | exact HB.out)))); have n1_ := zaa.mk (zan (g := gb226) (o := .cells #[.slice A0_0 l0_0.length c0_0] 24 (0, 0)) (by (with_reducible repeat (first | refine zaj ?_ _ | refine zak ?_ | refine zai ?_ _)); exact BK226.out) hb); have n2_ := zaa.mk (zan (g := gb227) (o := .cells #[.slice none 0 0] 24 (0, 0)) (by (with_reducible repeat (first | refine zaj ?_ _ | refine zak ?_ | refine zai ?_ _)); exact BK227.out) hb); have n3_ := zaa.mk (zam (by repeat (first | (with_reducible first | exact HB.out | apply zad | apply zab | apply zae | refine zal ?_ GE226.out | refine zal ?_ GE227.out) | exact HB.out)) hb); clear BK226; clear BK227; clear HB; have HO231 := n0_; have BK226 := n1_; have BK227 := n2_; have HB := n3_; clear n0_ n1_ n2_ n3_; (try clear hb); (try clear hb2); (try clear hk); (try clear hi); (try clear ho0); obtain ⟨Ao14, co14, eo14⟩ := Kd.zbG HO231.out; subst eo14; have hcz15_0 : w13.cell? ⟨gb227, 0, none⟩ = some (.slice none 0 0) := (zac BK227.out 0).trans rfl; have hfz15_0 := zaf BK227.out 0))
   refine bodyPost_ret (zbl rfl _ _ gb227 24 #[.slice Ao14 t229.length co14] (0, 0) _ rfl (by (with_reducible repeat (first | refine zaj ?_ _ | refine zak ?_ | refine zai ?_ _)); refine zaP (cs := #[.slice none 0 0]) ?_ 0 _ rfl; (with_reducible repeat (first | refine zaj ?_ _ | refine zak ?_ | refine zai ?_ _)); exact BK227.out) Tryz.underlying24 rfl (by kernel_rfl)) rfl ?_
   exact ⟨_, by first | rfl | (simp [zaw, zav] <;> rfl) | (simp [*, zaw, zav] <;> rfl), by (with_reducible repeat (first | apply Kd.zbn | apply Kd.zbp | apply Kd.zbC)); exact Kd.zbt (Kd.S_far (p := ⟨gb227, 0, none⟩) (Kd.S_types HO231.out BK227.out (by decide)) (fun _ hk => hk.2) (.slice Ao14 t229.length co14)) (fun _ hk => trivial), by repeat (first | (with_reducible first | exact HB.out | apply zad | apply zab | apply zae | refine zal ?_ GE226.out | refine zal ?_ GE227.out) | exact HB.out)⟩
  ·replace c5 := Bool.eq_false_iff.mpr c5
   subst c5
   have H1 : (some (([] : List (S40)), a1)) = some (r1, r2) := by rw [if_neg (show ¬ (false = true) by decide)] at H; exact H
   clear H
   have H := H1
   clear H1
   simp only [Option.some.injEq, Prod.mk.injEq] at H
   obtain ⟨rfl, rfl⟩ := H
   go_enter Tryz.func68, Tryz.ntmps68
   go_wp2_with (first | ((with_reducible refine zaS (N := 2) rfl ?_); refine zaG ?hg (N := 2) ?hd (cs := #[.slice A0_0 l0_0.length c0_0]) (t := 24) ?hr ?_; (case hd => rfl); (case hg => rfl); (case hr => first | (go_simp; done) | (go_simp; rfl)); intro gb226 hg w16 hbox hb; have n0_ := zaa.mk (zam (by repeat (first | (with_reducible first | exact HB.out | apply zad | apply zab | apply zae) | exact HB.out)) hb); have n1_ := zaa.mk (hbox); have n2_ := zaa.mk ((by rw [hg]; exact (zar (by repeat (first | (with_reducible first | exact HB.out | apply zad | apply zab | apply zae) | exact HB.out))) : w.heap.size ≤ gb226)); have n3_ := zaa.mk ((by rw [hg]; exact (zar (by repeat (first | (with_reducible first | exact HB.out | apply zad | apply zab | apply zae) | exact HB.out))) : w.heap.size ≤ gb226)); clear HB; have HB := n0_; have BK226 := n1_; have GW226 := n2_; have GE226 := n3_; clear n0_ n1_ n2_ n3_; clear hb hbox hg) | ((with_reducible refine zaS (N := 4) rfl ?_); refine zaG ?hg (N := 4) ?hd (cs := #[.slice none 0 0]) (t := 24) ?hr ?_; (case hd => rfl); (case hg => rfl); (case hr => first | (go_simp; done) | (go_simp; rfl)); intro gb227 hg w17 hbox hb; have n0_ := zaa.mk (zan (g := gb226) (o := .cells #[.slice A0_0 l0_0.length c0_0] 24 (0, 0)) (by (with_reducible repeat (first | refine zaj ?_ _ | refine zak ?_ | refine zai ?_ _)); exact BK226.out) hb); have n1_ := zaa.mk (zam (by repeat (first | (with_reducible first | exact HB.out | apply zad | apply zab | apply zae | refine zal ?_ GE226.out) | exact HB.out)) hb); have n2_ := zaa.mk (hbox); have n3_ := zaa.mk ((by rw [hg]; exact (zar (by repeat (first | (with_reducible first | exact HB.out | apply zad | apply zab | apply zae | refine zal ?_ GE226.out) | exact HB.out))) : w.heap.size ≤ gb227)); have n4_ := zaa.mk ((by rw [hg]; exact (zar (by repeat (first | (with_reducible first | exact HB.out | apply zad | apply zab | apply zae | refine zal ?_ GE226.out) | exact HB.out))) : w.heap.size ≤ gb227)); have n5_ := zaa.mk ((by rw [hg]; exact Nat.ne_of_lt (zaO (g := gb226) (o := .cells #[.slice A0_0 l0_0.length c0_0] 24 (0, 0)) (by (with_reducible repeat (first | refine zaj ?_ _ | refine zak ?_ | refine zai ?_ _)); exact BK226.out)) : gb226 ≠ gb227)); have n6_ := zaa.mk ((by rw [hg]; exact Nat.ne_of_gt (zaO (g := gb226) (o := .cells #[.slice A0_0 l0_0.length c0_0] 24 (0, 0)) (by (with_reducible repeat (first | refine zaj ?_ _ | refine zak ?_ | refine zai ?_ _)); exact BK226.out)) : gb227 ≠ gb226)); clear BK226; clear HB; have BK226 := n0_; have HB := n1_; have BK227 := n2_; have GW227 := n3_; have GE227 := n4_; have NB226_227 := n5_; have NB227_226 := n6_; clear n0_ n1_ n2_ n3_ n4_ n5_ n6_; clear hb hbox hg; have hnb18 := NB226_227.out; have hnc18 := NB227_226.out; have hcz19_0 : w17.cell? ⟨gb226, 0, none⟩ = some (.slice A0_0 l0_0.length c0_0) := (zac BK226.out 0).trans rfl; have hfz19_0 := zaf BK226.out 0) | (go_at_call 25; (with_reducible refine (zaH.calls k _ _ l0_0 false _ ?side1 ?side2 A4.out).mono ?_); (case side1 => repeat (first | exact (Kd.C_below HR0_0.out HB.out) | (with_reducible refine Kd.C_alloc ?_ _) | (with_reducible refine Kd.C_drewN ?_ _) | (with_reducible refine Kd.C_drew ?_))); (case side2 => exact HC0_0.out); rintro e w20 ⟨rfl, hb⟩; have n0_ := zaa.mk (zan (g := gb226) (o := .cells #[.slice A0_0 l0_0.length c0_0] 24 (0, 0)) (by (with_reducible repeat (first | refine zaj ?_ _ | refine zak ?_ | refine zai ?_ _)); exact BK226.out) hb); have n1_ := zaa.mk (zan (g := gb227) (o := .cells #[.slice none 0 0] 24 (0, 0)) (by (with_reducible repeat (first | refine zaj ?_ _ | refine zak ?_ | refine zai ?_ _)); exact BK227.out) hb); have n2_ := zaa.mk (zam (by repeat (first | (with_reducible first | exact HB.out | apply zad | apply zab | apply zae | refine zal ?_ GE226.out | refine zal ?_ GE227.out) | exact HB.out)) hb); clear BK226; clear BK227; clear HB; have BK226 := n0_; have BK227 := n1_; have HB := n2_; clear n0_ n1_ n2_; (try clear hb); (try clear hb2); (try clear hk); (try clear hi); have hcz21_0 : w20.cell? ⟨gb227, 0, none⟩ = some (.slice none 0 0) := (zac BK227.out 0).trans rfl; have hfz21_0 := zaf BK227.out 0))
   refine bodyPost_ret (zbl rfl _ _ gb227 24 #[.slice none 0 0] (0, 0) _ rfl (by (with_reducible repeat (first | refine zaj ?_ _ | refine zak ?_ | refine zai ?_ _)); refine zaP (cs := #[.slice none 0 0]) ?_ 0 _ rfl; (with_reducible repeat (first | refine zaj ?_ _ | refine zak ?_ | refine zai ?_ _)); exact BK227.out) Tryz.underlying24 rfl (by kernel_rfl)) rfl ?_
   exact ⟨_, by first | rfl | (simp [zaw, zav] <;> rfl) | (simp [*, zaw, zav] <;> rfl), by first | exact Kd.S_nil _ _ _ _ _ | exact Kd.N_nil _ _ _ _ _ | exact Kd.V_nil _ _ _ _ _ | exact Kd.Q_nil _ _ _ _ _ | exact Kd.R_nil _ _ _ _ _, by repeat (first | (with_reducible first | exact HB.out | apply zad | apply zab | apply zae | refine zal ?_ GE226.out | refine zal ?_ GE227.out) | exact HB.out)⟩
 ·rw [if_neg c3] at H
  have c3b0 : (a1 == 100) = false := beq_eq_false_iff_ne.mpr c3
  have c3b1 : (a1 != 100) = true := bne_iff_ne.mpr c3
  replace H := Option.bind_eq_some_iff.mp H
  obtain ⟨t232, A220, H⟩ := H
  replace H : (some (t232, a1)) = some (r1, r2) := H
  have A22 := zaa.mk A220
  clear A220
  simp only [Option.some.injEq, Prod.mk.injEq] at H
  obtain ⟨rfl, rfl⟩ := H
  go_enter Tryz.func68, Tryz.ntmps68
  go_wp2_with (first | ((with_reducible refine zaS (N := 2) rfl ?_); refine zaG ?hg (N := 2) ?hd (cs := #[.slice A0_0 l0_0.length c0_0]) (t := 24) ?hr ?_; (case hd => rfl); (case hg => rfl); (case hr => first | (go_simp; done) | (go_simp; rfl)); intro gb226 hg w23 hbox hb; have n0_ := zaa.mk (zam (by repeat (first | (with_reducible first | exact HB.out | apply zad | apply zab | apply zae) | exact HB.out)) hb); have n1_ := zaa.mk (hbox); have n2_ := zaa.mk ((by rw [hg]; exact (zar (by repeat (first | (with_reducible first | exact HB.out | apply zad | apply zab | apply zae) | exact HB.out))) : w.heap.size ≤ gb226)); have n3_ := zaa.mk ((by rw [hg]; exact (zar (by repeat (first | (with_reducible first | exact HB.out | apply zad | apply zab | apply zae) | exact HB.out))) : w.heap.size ≤ gb226)); clear HB; have HB := n0_; have BK226 := n1_; have GW226 := n2_; have GE226 := n3_; clear n0_ n1_ n2_ n3_; clear hb hbox hg) | ((with_reducible refine zaS (N := 4) rfl ?_); refine zaG ?hg (N := 4) ?hd (cs := #[.slice none 0 0]) (t := 24) ?hr ?_; (case hd => rfl); (case hg => rfl); (case hr => first | (go_simp; done) | (go_simp; rfl)); intro gb227 hg w24 hbox hb; have n0_ := zaa.mk (zan (g := gb226) (o := .cells #[.slice A0_0 l0_0.length c0_0] 24 (0, 0)) (by (with_reducible repeat (first | refine zaj ?_ _ | refine zak ?_ | refine zai ?_ _)); exact BK226.out) hb); have n1_ := zaa.mk (zam (by repeat (first | (with_reducible first | exact HB.out | apply zad | apply zab | apply zae | refine zal ?_ GE226.out) | exact HB.out)) hb); have n2_ := zaa.mk (hbox); have n3_ := zaa.mk ((by rw [hg]; exact (zar (by repeat (first | (with_reducible first | exact HB.out | apply zad | apply zab | apply zae | refine zal ?_ GE226.out) | exact HB.out))) : w.heap.size ≤ gb227)); have n4_ := zaa.mk ((by rw [hg]; exact (zar (by repeat (first | (with_reducible first | exact HB.out | apply zad | apply zab | apply zae | refine zal ?_ GE226.out) | exact HB.out))) : w.heap.size ≤ gb227)); have n5_ := zaa.mk ((by rw [hg]; exact Nat.ne_of_lt (zaO (g := gb226) (o := .cells #[.slice A0_0 l0_0.length c0_0] 24 (0, 0)) (by (with_reducible repeat (first | refine zaj ?_ _ | refine zak ?_ | refine zai ?_ _)); exact BK226.out)) : gb226 ≠ gb227)); have n6_ := zaa.mk ((by rw [hg]; exact Nat.ne_of_gt (zaO (g := gb226) (o := .cells #[.slice A0_0 l0_0.length c0_0] 24 (0, 0)) (by (with_reducible repeat (first | refine zaj ?_ _ | refine zak ?_ | refine zai ?_ _)); exact BK226.out)) : gb227 ≠ gb226)); clear BK226; clear HB; have BK226 := n0_; have HB := n1_; have BK227 := n2_; have GW227 := n3_; have GE227 := n4_; have NB226_227 := n5_; have NB227_226 := n6_; clear n0_ n1_ n2_ n3_ n4_ n5_ n6_; clear hb hbox hg; have hnb25 := NB226_227.out; have hnc25 := NB227_226.out; have hcz26_0 : w24.cell? ⟨gb226, 0, none⟩ = some (.slice A0_0 l0_0.length c0_0) := (zac BK226.out 0).trans rfl; have hfz26_0 := zaf BK226.out 0) | ((with_reducible refine zaY (f := 71) rfl ?_); refine zbI (some 16) rfl rfl Tryz.func71 (by kernel_rfl) rfl #[.agg #[.slice A0_0 l0_0.length c0_0]] rfl (by (try simp only [List.map_toArray, List.map_cons, List.map_nil]); first | done | rfl | (simp only [List.length_drop, List.length_take]; rfl)) ?_; (with_reducible refine (zaZ.calls k _ _ l0_0 t232 _ ?side1 ?side2 A22.out).mono ?_); (case side1 => repeat (first | exact (Kd.C_below HR0_0.out HB.out) | (with_reducible refine Kd.C_alloc ?_ _) | (with_reducible refine Kd.C_drewN ?_ _) | (with_reducible refine Kd.C_drew ?_))); (case side2 => exact HC0_0.out); rintro e w27 ⟨v233, rfl, ho0, hb⟩; refine ⟨_, rfl, ?_⟩; have n0_ := zaa.mk (Kd.zbD ho0 (zar (by repeat (first | (with_reducible first | exact HB.out | apply zad | apply zab | apply zae | refine zal ?_ GE226.out | refine zal ?_ GE227.out) | exact HB.out)))); have n1_ := zaa.mk (zan (g := gb226) (o := .cells #[.slice A0_0 l0_0.length c0_0] 24 (0, 0)) (by (with_reducible repeat (first | refine zaj ?_ _ | refine zak ?_ | refine zai ?_ _)); exact BK226.out) hb); have n2_ := zaa.mk (zan (g := gb227) (o := .cells #[.slice none 0 0] 24 (0, 0)) (by (with_reducible repeat (first | refine zaj ?_ _ | refine zak ?_ | refine zai ?_ _)); exact BK227.out) hb); have n3_ := zaa.mk (zam (by repeat (first | (with_reducible first | exact HB.out | apply zad | apply zab | apply zae | refine zal ?_ GE226.out | refine zal ?_ GE227.out) | exact HB.out)) hb); clear BK226; clear BK227; clear HB; have HO234 := n0_; have BK226 := n1_; have BK227 := n2_; have HB := n3_; clear n0_ n1_ n2_ n3_; (try clear hb); (try clear hb2); (try clear hk); (try clear hi); (try clear ho0); obtain ⟨Ao28, co28, eo28⟩ := Kd.zbG HO234.out; subst eo28; have hcz29_0 : w27.cell? ⟨gb227, 0, none⟩ = some (.slice none 0 0) := (zac BK227.out 0).trans rfl; have hfz29_0 := zaf BK227.out 0))
  refine bodyPost_ret (zbl rfl _ _ gb227 24 #[.slice Ao28 t232.length co28] (0, 0) _ rfl (by (with_reducible repeat (first | refine zaj ?_ _ | refine zak ?_ | refine zai ?_ _)); refine zaP (cs := #[.slice none 0 0]) ?_ 0 _ rfl; (with_reducible repeat (first | refine zaj ?_ _ | refine zak ?_ | refine zai ?_ _)); exact BK227.out) Tryz.underlying24 rfl (by kernel_rfl)) rfl ?_
  exact ⟨_, by first | rfl | (simp [zaw, zav] <;> rfl) | (simp [*, zaw, zav] <;> rfl), by (with_reducible repeat (first | apply Kd.zbn | apply Kd.zbp | apply Kd.zbC)); exact Kd.zbt (Kd.S_far (p := ⟨gb227, 0, none⟩) (Kd.S_types HO234.out BK227.out (by decide)) (fun _ hk => hk.2) (.slice Ao28 t232.length co28)) (fun _ hk => trivial), by repeat (first | (with_reducible first | exact HB.out | apply zad | apply zab | apply zae | refine zal ?_ GE226.out | refine zal ?_ GE227.out) | exact HB.out)⟩
def tree_Dir.f (l0_0 : List (S40)) (a1 : Int) : Option (Bool) := if 0 ≤ a1 then (if a1 < (l0_0.length : Int) then (some (((zah l0_0 a1).f0) == 2)) else (none)) else (none)
set_option maxHeartbeats 8000000 in
set_option maxRecDepth 100000 in
theorem tree_Dir.calls (A0_0 : Option Addr) (c0_0 : Nat) (l0_0 : List (S40)) (a1 : Int) (r : Bool) (w : World) (hr0_0 : Kd.C k40 w A0_0 l0_0.length l0_0) (hc0_0 : l0_0.length ≤ c0_0) (h : tree_Dir.f l0_0 a1 = some r) :
  Calls Tryz.prog 69 #[.agg #[.slice A0_0 l0_0.length c0_0], .int .i64 a1] w fun e w' => e = .returned (.bool r) ∧ Below w.heap.size w w' := by
 have hu24 := Tryz.underlying24
 have HR0_0 := zaa.mk hr0_0
 have HC0_0 := zaa.mk hc0_0
 clear hr0_0 hc0_0
 have HB := zaa.mk (Below.refl w.heap.size w)
 have H : (if 0 ≤ a1 then (if a1 < (l0_0.length : Int) then (some (((zah l0_0 a1).f0) == 2)) else (none)) else (none)) = some r := h
 clear h
 by_cases c3 : 0 ≤ a1
 ·rw [if_pos c3] at H
  have c3b0 : decide (0 ≤ a1) = true := decide_eq_true c3
  clear c3
  by_cases c4 : a1 < (l0_0.length : Int)
  ·rw [if_pos c4] at H
   have c4b0 : decide (a1 < (l0_0.length : Int)) = true := decide_eq_true c4
   clear c4
   obtain rfl := Option.some.inj H
   go_enter Tryz.func69, Tryz.ntmps69
   go_wp2_with (first | ((with_reducible refine zaS (N := 2) rfl ?_); refine zaG ?hg (N := 2) ?hd (cs := #[.slice A0_0 l0_0.length c0_0]) (t := 24) ?hr ?_; (case hd => rfl); (case hg => rfl); (case hr => first | (go_simp; done) | (go_simp; rfl)); intro gb235 hg w5 hbox hb; have n0_ := zaa.mk (zam (by repeat (first | (with_reducible first | exact HB.out | apply zad | apply zab | apply zae) | exact HB.out)) hb); have n1_ := zaa.mk (hbox); have n2_ := zaa.mk ((by rw [hg]; exact (zar (by repeat (first | (with_reducible first | exact HB.out | apply zad | apply zab | apply zae) | exact HB.out))) : w.heap.size ≤ gb235)); have n3_ := zaa.mk ((by rw [hg]; exact (zar (by repeat (first | (with_reducible first | exact HB.out | apply zad | apply zab | apply zae) | exact HB.out))) : w.heap.size ≤ gb235)); clear HB; have HB := n0_; have BK235 := n1_; have GW235 := n2_; have GE235 := n3_; clear n0_ n1_ n2_ n3_; clear hb hbox hg; have hcz6_0 : w5.cell? ⟨gb235, 0, none⟩ = some (.slice A0_0 l0_0.length c0_0) := (zac BK235.out 0).trans rfl; have hfz6_0 := zaf BK235.out 0; have p236 : 0 ≤ (a1 : Int) := of_decide_eq_true (by first | (with_reducible assumption) | assumption); have q236 : a1 < (l0_0.length : Int) := of_decide_eq_true (by first | (with_reducible assumption) | assumption); obtain ⟨ad236, A236_1, c236_1, A236_2, c236_2, e236, hx236_0, hx236_1, hx236_2, hx236_3, hx236_4, hx236_5, hl236_1, hi236_1, hl236_2, hi236_2⟩ := zbc HR0_0.out a1 p236 q236; cases e236; replace hx236_0 := (HB.out.cell (World.block_lt_of_cell? w _ hx236_0)).trans hx236_0; replace hx236_1 := (HB.out.cell (World.block_lt_of_cell? w _ hx236_1)).trans hx236_1; replace hx236_2 := (HB.out.cell (World.block_lt_of_cell? w _ hx236_2)).trans hx236_2; replace hx236_3 := (HB.out.cell (World.block_lt_of_cell? w _ hx236_3)).trans hx236_3; replace hx236_4 := (HB.out.cell (World.block_lt_of_cell? w _ hx236_4)).trans hx236_4; replace hx236_5 := (HB.out.cell (World.block_lt_of_cell? w _ hx236_5)).trans hx236_5; have HR236_1 := zaa.mk hi236_1; have HC236_1 := zaa.mk hl236_1; clear hi236_1 hl236_1; have HR236_2 := zaa.mk hi236_2; have HC236_2 := zaa.mk hl236_2; clear hi236_2 hl236_2; replace p236 := eq_true p236; replace q236 := eq_true q236))
   go_ret
   exact ⟨by first | rfl | (simp [zaw, zav] <;> rfl) | (simp [*, zaw, zav] <;> rfl), by repeat (first | (with_reducible first | exact HB.out | apply zad | apply zab | apply zae | refine zal ?_ GE235.out) | exact HB.out)⟩
  ·rw [if_neg c4] at H
   exact absurd H (by simp)
 ·rw [if_neg c3] at H
  exact absurd H (by simp)
def cmpN (x : S50) (s : ByteArray) : Int := Lib.compareBytes x.f0.data.toList s.data.toList
def bsF : Nat → List S50 → ByteArray → Nat → Nat → Nat
 | 0, _, _, i, _ => i
 | k + 1, ns, s, i, j => if i < j then (if cmpN (zau ns (((i + j) / 2 : Nat) : Int)) s < 0 then bsF k ns s ((i + j) / 2 + 1) j else bsF k ns s i ((i + j) / 2)) else i
def bs (ns : List S50) (s : ByteArray) : Nat := bsF (ns.length + 1) ns s 0 ns.length
def bsAt (ns : List S50) (s : ByteArray) : Bool := decide (bs ns s < ns.length) && (cmpN (zau ns (bs ns s : Int)) s == 0)
theorem bsF_le (ns : List S50) (s : ByteArray) : ∀ (k i j : Nat), i ≤ j → bsF k ns s i j ≤ j
 | 0, _, _, h => h
 | k + 1, i, j, h => by
  unfold bsF
  split
  ·split
   ·exact bsF_le ns s k _ _ (by omega)
   ·exact Nat.le_trans (bsF_le ns s k _ _ (by omega)) (by omega)
  ·exact h
theorem bs_le (ns : List S50) (s : ByteArray) : bs ns s ≤ ns.length := bsF_le ns s _ _ _ (Nat.zero_le _)
set_option maxHeartbeats 1000000 in
set_option maxRecDepth 100000 in
theorem zbk.fn (x : S50) (s : ByteArray) (w : World) :
  Calls Tryz.prog 107 #[.agg #[.string x.f0, .int .i64 x.f1], .string s] w fun e w' => e = .returned (.int .i64 (cmpN x s)) ∧ Below w.heap.size w w' := by
 have hu := Tryz.underlying50
 go_enter Tryz.func107, Tryz.ntmps107
 go_wp2_with (first | (go_at_call 108; refine (Tryz.strings_Compare x.f0 s _).mono ?_; rintro e w1 ⟨rfl, rfl⟩))
 go_ret
 exact ⟨rfl, zad (Below.refl _ _) _⟩
set_option maxHeartbeats 2000000 in
set_option maxRecDepth 100000 in
theorem zbk.search (A1 : Option Addr) (c1 : Nat) (ns : List S50) (s : ByteArray) (w : World) (hr1 : Kd.C k50 w A1 ns.length ns) (hc1 : ns.length ≤ c1) (hm : ns.length ≤ 4611686018427387904) :
  Calls Tryz.prog 106 #[.slice A1 ns.length c1, .string s, .func (.func 107) #[] #[]] w fun e w' => e = .returned (.tuple #[.int .i64 (bs ns s), .bool (bsAt ns s)]) ∧ Below w.heap.size w w' := by
 have HR := zaa.mk hr1
 have HC := zaa.mk hc1
 have HM := zaa.mk hm
 have hu := Tryz.underlying50
 clear hr1 hc1 hm
 go_enter Tryz.func106, Tryz.ntmps106
 go_wp2
 go_loopw [9, 10] (fun v9 v10 w' => ∃ i j f : Nat, i ≤ j ∧ j ≤ ns.length ∧ v9 = .int .i64 i ∧ v10 = .int .i64 j ∧ j - i < f ∧ zaa (bsF f ns s i j = bs ns s) ∧ zaa (Below w.heap.size w w')) (fun v9 v10 _ => (intOf v10).toNat - (intOf v9).toNat)
 case atStart => exact ⟨0, ns.length, ns.length + 1, Nat.zero_le _, Nat.le_refl _, rfl, rfl, by omega, ⟨rfl⟩, ⟨Below.refl _ _⟩⟩
 case round =>
  obtain ⟨i, j, f, hij, hj, rfl, rfl, hf, HE, HB⟩ := hrel
  have hmax := HM.out
  by_cases hlt : i < j
  ·have p : 0 ≤ ((i : Int) + (j : Int)) / 2 := by omega
   have q : ((i : Int) + (j : Int)) / 2 < (ns.length : Int) := by omega
   obtain ⟨ad, rfl, hx0, hx1⟩ := zb4 HR.out (((i : Int) + (j : Int)) / 2) p q
   replace hx0 := (HB.out.cell (World.block_lt_of_cell? w _ hx0)).trans hx0
   replace hx1 := (HB.out.cell (World.block_lt_of_cell? w _ hx1)).trans hx1
   have hi : ((i : Int) + (j : Int)) / 2 = (((i + j) / 2 : Nat) : Int) := by omega
   rw [show (((i : Int) + (j : Int)) / 2).toNat = (i + j) / 2 by omega] at hx0 hx1
   have F := fun w' => zbk.fn (zau ns (((i : Int) + (j : Int)) / 2)) s w'
   obtain ⟨f, rfl⟩ : ∃ m, f = m + 1 := ⟨f - 1, by omega⟩
   have he := HE.out
   rw [bsF, if_pos hlt, ← hi] at he
   have HI := zaa.mk hi
   clear hi HE
   obtain ⟨c, hc⟩ : ∃ c, c = cmpN (zau ns (((i : Int) + (j : Int)) / 2)) s := ⟨_, rfl⟩
   rw [← hc] at he F
   clear hc
   have HF := zaa.mk F
   have HE := zaa.mk he
   clear F he
   by_cases hneg : c < 0
   all_goals
    go_wp2_with (first | (go_at_call 107; refine (HF.out _).mono ?_; rintro e w1 ⟨rfl, hb⟩; have HB1 := zaa.mk (zam HB.out hb); clear hb))
   ·go_roundw
    case rel => exact ⟨(i + j) / 2 + 1, j, f, by omega, hj, by rw [HI.out]; go_num, rfl, by omega, ⟨by rw [← HE.out, if_pos hneg]⟩, HB1⟩
    case measure => simp [intOf]; omega
   ·go_roundw
    case rel => exact ⟨i, (i + j) / 2, f, by omega, by omega, rfl, by rw [HI.out], by omega, ⟨by rw [← HE.out, if_neg (by omega)]⟩, HB1⟩
    case measure => simp [intOf]; omega
  ·obtain rfl : i = bs ns s := by
    have := HE.out
    cases f with
    | zero => omega
    | succ f => rw [bsF, if_neg hlt] at this; omega
   by_cases hin : bs ns s < ns.length
   ·have HA : zaa (bsAt ns s = (cmpN (zau ns (bs ns s : Int)) s == 0)) := ⟨by unfold bsAt; simp [hin]⟩
    obtain ⟨ad, rfl, hx0, hx1⟩ := zb4 HR.out (bs ns s : Int) (by omega) (by omega)
    replace hx0 := (HB.out.cell (World.block_lt_of_cell? w _ hx0)).trans hx0
    replace hx1 := (HB.out.cell (World.block_lt_of_cell? w _ hx1)).trans hx1
    rw [Int.toNat_natCast] at hx0 hx1
    have F := zaa.mk (fun w' => zbk.fn (zau ns (bs ns s : Int)) s w')
    clear HE
    go_wp2_with (first | (go_at_call 107; refine (F.out _).mono ?_; rintro e w1 ⟨rfl, hb⟩; have HB1 := zaa.mk (zam HB.out hb); clear hb))
    go_ret2
    exact ⟨by rw [HA.out]; rfl, HB1.out⟩
   ·have HA : zaa (bsAt ns s = false) := ⟨by unfold bsAt; simp [hin]⟩
    clear HE
    have hin' : decide (bs ns s < ns.length) = false := by simpa using hin
    go_wp2
    go_ret2
    exact ⟨by rw [HA.out]; rfl, HB.out⟩
def zbk.f (l0_0 : List S40) (a1 : Int) (a2 : ByteArray) : Option (Int × Bool) := if 0 ≤ a1 then (if a1 < (l0_0.length : Int) then (if (zah l0_0 a1).f2.length ≤ 4611686018427387904 then some ((bs (zah l0_0 a1).f2 a2 : Int), bsAt (zah l0_0 a1).f2 a2) else none) else none) else none
set_option maxHeartbeats 1000000 in
set_option maxRecDepth 100000 in
theorem zbk.calls (A0_0 : Option Addr) (c0_0 : Nat) (l0_0 : List S40) (a1 : Int) (a2 : ByteArray) (r1 : Int) (r2 : Bool) (w : World) (hr0_0 : Kd.C k40 w A0_0 l0_0.length l0_0) (hc0_0 : l0_0.length ≤ c0_0) (h : zbk.f l0_0 a1 a2 = some (r1, r2)) :
  Calls Tryz.prog 98 #[.agg #[.slice A0_0 l0_0.length c0_0], .int .i64 a1, .string a2] w fun e w' => e = .returned (.tuple #[.int .i64 r1, .bool r2]) ∧ Below w.heap.size w w' := by
 unfold zbk.f at h
 split at h
 ·rename_i p
  split at h
  ·rename_i q
   split at h
   ·rename_i hm
    obtain ⟨ad, A1, c1, A2, c2, rfl, hx0, hx1, hx2, hx3, hx4, hx5, hl1, hi1, hl2, hi2⟩ := zbc hr0_0 a1 p q
    simp only [Option.some.injEq, Prod.mk.injEq] at h
    obtain ⟨rfl, rfl⟩ := h
    have HS := zaa.mk (fun w' (hb : Below w.heap.size w w') => zbk.search A2 c2 (zah l0_0 a1).f2 a2 w' (Kd.C_below hi2 hb) hl2 hm)
    clear hl1 hi1 hl2 hi2 hm hr0_0 hc0_0 hx0 hx1 hx3 hx4 hx5
    have hu := Tryz.underlying24
    go_enter Tryz.func98, Tryz.ntmps98
    have hx := (zad (Below.refl w.heap.size w) (.cells #[.slice (some ad) l0_0.length c0_0] 24)).cell (World.block_lt_of_cell? w _ hx2)
    rw [hx2] at hx
    go_wp2_with (first | (go_at_call 106; refine (HS.out _ (zad (Below.refl _ _) _)).mono ?_; rintro e w1 ⟨rfl, hb⟩))
    go_ret2
    exact ⟨rfl, zam (zad (Below.refl _ _) _) hb⟩
   ·cases h
  ·cases h
 ·cases h
def zcq.f (k : Nat) (l0_0 : List (S40)) (a1 : Int) (a2 : ByteArray) (a3 : Int) : Option (Int) := (tree_Dir.f l0_0 a1).bind fun t238 => (if t238 = true then ((zaM.f k a2).bind fun t239 => (if t239 = 0 then ((zbk.f l0_0 a1 a2).bind fun bt240 => (if a3 = 0 then (if 0 ≤ a1 then (if a1 < (l0_0.length : Int) then (if ((zah l0_0 a1).f4) = 0 then (some 44) else (if bt240.2 = true then (some 20) else (if (((zah l0_0 a1).f2).length : Int) = 64 then (some 51) else (some 0)))) else (none)) else (none)) else (some a3))) else (some t239))) else (some 54))
theorem zcq.mono : ∀ a0 a1 a2 a3 k, LeO (zcq.f k a0 a1 a2 a3) (zcq.f (k + 1) a0 a1 a2 a3) := by
 intro a0 a1 a2 a3 k
 unfold zcq.f
 repeat' first
   | (with_reducible exact zaM.mono _ _)
   | (with_reducible exact LeO.refl _)
   | (with_reducible exact LeO.none _)
   | (with_reducible refine LeO.ite ?_ ?_)
   | (with_reducible refine LeO.bind ?_ (fun _ => ?_))
   | exact zaM.mono _ _
   | exact LeO.none _
   | refine LeO.ite ?_ ?_
   | refine LeO.bind ?_ (fun _ => ?_)
set_option maxHeartbeats 8000000 in
set_option maxRecDepth 100000 in
theorem zcq.calls (k : Nat) (A0_0 : Option Addr) (c0_0 : Nat) (l0_0 : List (S40)) (a1 : Int) (a2 : ByteArray) (a3 : Int) (r : Int) (w : World) (hr0_0 : Kd.C k40 w A0_0 l0_0.length l0_0) (hc0_0 : l0_0.length ≤ c0_0) (h : zcq.f k l0_0 a1 a2 a3 = some r) :
  Calls Tryz.prog 70 #[.agg #[.slice A0_0 l0_0.length c0_0], .int .i64 a1, .string a2, .int .i64 a3] w fun e w' => e = .returned (.int .i64 r) ∧ Below w.heap.size w w' := by
 have hu24 := Tryz.underlying24
 have HR0_0 := zaa.mk hr0_0
 have HC0_0 := zaa.mk hc0_0
 clear hr0_0 hc0_0
 have HB := zaa.mk (Below.refl w.heap.size w)
 have H : ((tree_Dir.f l0_0 a1).bind fun t238 => (if t238 = true then ((zaM.f k a2).bind fun t239 => (if t239 = 0 then ((zbk.f l0_0 a1 a2).bind fun bt240 => (if a3 = 0 then (if 0 ≤ a1 then (if a1 < (l0_0.length : Int) then (if ((zah l0_0 a1).f4) = 0 then (some 44) else (if bt240.2 = true then (some 20) else (if (((zah l0_0 a1).f2).length : Int) = 64 then (some 51) else (some 0)))) else (none)) else (none)) else (some a3))) else (some t239))) else (some 54))) = some r := h
 clear h
 replace H := Option.bind_eq_some_iff.mp H
 obtain ⟨t238, A50, H⟩ := H
 replace H : (if t238 = true then ((zaM.f k a2).bind fun t239 => (if t239 = 0 then ((zbk.f l0_0 a1 a2).bind fun bt240 => (if a3 = 0 then (if 0 ≤ a1 then (if a1 < (l0_0.length : Int) then (if ((zah l0_0 a1).f4) = 0 then (some 44) else (if bt240.2 = true then (some 20) else (if (((zah l0_0 a1).f2).length : Int) = 64 then (some 51) else (some 0)))) else (none)) else (none)) else (some a3))) else (some t239))) else (some 54)) = some r := H
 have A5 := zaa.mk A50
 clear A50
 by_cases c6 : t238 = true
 focus
  subst c6
  have H1 : ((zaM.f k a2).bind fun t239 => (if t239 = 0 then ((zbk.f l0_0 a1 a2).bind fun bt240 => (if a3 = 0 then (if 0 ≤ a1 then (if a1 < (l0_0.length : Int) then (if ((zah l0_0 a1).f4) = 0 then (some 44) else (if bt240.2 = true then (some 20) else (if (((zah l0_0 a1).f2).length : Int) = 64 then (some 51) else (some 0)))) else (none)) else (none)) else (some a3))) else (some t239))) = some r := by rw [if_pos rfl] at H; exact H
  clear H
  have H := H1
  clear H1
  replace H := Option.bind_eq_some_iff.mp H
  obtain ⟨t239, A70, H⟩ := H
  replace H : (if t239 = 0 then ((zbk.f l0_0 a1 a2).bind fun bt240 => (if a3 = 0 then (if 0 ≤ a1 then (if a1 < (l0_0.length : Int) then (if ((zah l0_0 a1).f4) = 0 then (some 44) else (if bt240.2 = true then (some 20) else (if (((zah l0_0 a1).f2).length : Int) = 64 then (some 51) else (some 0)))) else (none)) else (none)) else (some a3))) else (some t239)) = some r := H
  have A7 := zaa.mk A70
  clear A70
  by_cases c8 : t239 = 0
  focus
   rw [if_pos c8] at H
   have c8b0 : (t239 == 0) = true := beq_iff_eq.mpr c8
   have c8b1 : (t239 != 0) = false := bne_eq_false_iff_eq.mpr c8
   clear c8
   replace H := Option.bind_eq_some_iff.mp H
   obtain ⟨⟨t240, t241⟩, A90, H⟩ := H
   replace H : (if a3 = 0 then (if 0 ≤ a1 then (if a1 < (l0_0.length : Int) then (if ((zah l0_0 a1).f4) = 0 then (some 44) else (if t241 = true then (some 20) else (if (((zah l0_0 a1).f2).length : Int) = 64 then (some 51) else (some 0)))) else (none)) else (none)) else (some a3)) = some r := H
   have A9 := zaa.mk A90
   clear A90
   by_cases c10 : a3 = 0
   focus
    rw [if_pos c10] at H
    have c10b0 : (a3 == 0) = true := beq_iff_eq.mpr c10
    have c10b1 : (a3 != 0) = false := bne_eq_false_iff_eq.mpr c10
    clear c10
    by_cases c11 : 0 ≤ a1
    focus
     rw [if_pos c11] at H
     have c11b0 : decide (0 ≤ a1) = true := decide_eq_true c11
     clear c11
     by_cases c12 : a1 < (l0_0.length : Int)
     focus
      rw [if_pos c12] at H
      have c12b0 : decide (a1 < (l0_0.length : Int)) = true := decide_eq_true c12
      clear c12
      by_cases c13 : ((zah l0_0 a1).f4) = 0
      focus
       rw [if_pos c13] at H
       have c13b0 : (((zah l0_0 a1).f4) == 0) = true := beq_iff_eq.mpr c13
       have c13b1 : (((zah l0_0 a1).f4) != 0) = false := bne_eq_false_iff_eq.mpr c13
       clear c13
       obtain rfl := Option.some.inj H
      rotate_left 1
      focus
       rw [if_neg c13] at H
       have c13b0 : (((zah l0_0 a1).f4) == 0) = false := beq_eq_false_iff_ne.mpr c13
       have c13b1 : (((zah l0_0 a1).f4) != 0) = true := bne_iff_ne.mpr c13
       by_cases c20 : t241 = true
       focus
        subst c20
        have H1 : (some 20) = some r := by rw [if_pos rfl] at H; exact H
        clear H
        have H := H1
        clear H1
        obtain rfl := Option.some.inj H
       rotate_left 1
       focus
        replace c20 := Bool.eq_false_iff.mpr c20
        subst c20
        have H1 : (if (((zah l0_0 a1).f2).length : Int) = 64 then (some 51) else (some 0)) = some r := by rw [if_neg (show ¬ (false = true) by decide)] at H; exact H
        clear H
        have H := H1
        clear H1
        by_cases c27 : (((zah l0_0 a1).f2).length : Int) = 64
        focus
         rw [if_pos c27] at H
         have c27b0 : ((((zah l0_0 a1).f2).length : Int) == 64) = true := beq_iff_eq.mpr c27
         have c27b1 : ((((zah l0_0 a1).f2).length : Int) != 64) = false := bne_eq_false_iff_eq.mpr c27
         clear c27
         obtain rfl := Option.some.inj H
        rotate_left 1
        focus
         rw [if_neg c27] at H
         have c27b0 : ((((zah l0_0 a1).f2).length : Int) == 64) = false := beq_eq_false_iff_ne.mpr c27
         have c27b1 : ((((zah l0_0 a1).f2).length : Int) != 64) = true := bne_iff_ne.mpr c27
         obtain rfl := Option.some.inj H
     rotate_left 4
     ·rw [if_neg c12] at H
      exact absurd H (by simp)
    rotate_left 4
    ·rw [if_neg c11] at H
     exact absurd H (by simp)
   rotate_left 4
   focus
    rw [if_neg c10] at H
    have c10b0 : (a3 == 0) = false := beq_eq_false_iff_ne.mpr c10
    have c10b1 : (a3 != 0) = true := bne_iff_ne.mpr c10
    obtain rfl := Option.some.inj H
  rotate_left 5
  focus
   rw [if_neg c8] at H
   have c8b0 : (t239 == 0) = false := beq_eq_false_iff_ne.mpr c8
   have c8b1 : (t239 != 0) = true := bne_iff_ne.mpr c8
   obtain rfl := Option.some.inj H
 rotate_left 6
 focus
  replace c6 := Bool.eq_false_iff.mpr c6
  subst c6
  have H1 : (some 54) = some r := by rw [if_neg (show ¬ (false = true) by decide)] at H; exact H
  clear H
  have H := H1
  clear H1
  obtain rfl := Option.some.inj H
 all_goals
  go_enter Tryz.func70, Tryz.ntmps70
  go_wp2_with (first | ((with_reducible refine zaS (N := 4) rfl ?_); refine zaG ?hg (N := 4) ?hd (cs := #[.slice A0_0 l0_0.length c0_0]) (t := 24) ?hr ?_; (case hd => rfl); (case hg => rfl); (case hr => first | (go_simp; done) | (go_simp; rfl)); intro gb237 hg wq1 hbox hb; have n0_ := zaa.mk (zam (by repeat (first | (with_reducible first | exact HB.out | apply zad | apply zab | apply zae) | exact HB.out)) hb); have n1_ := zaa.mk (hbox); have n2_ := zaa.mk ((by rw [hg]; exact (zar (by repeat (first | (with_reducible first | exact HB.out | apply zad | apply zab | apply zae) | exact HB.out))) : w.heap.size ≤ gb237)); have n3_ := zaa.mk ((by rw [hg]; exact (zar (by repeat (first | (with_reducible first | exact HB.out | apply zad | apply zab | apply zae) | exact HB.out))) : w.heap.size ≤ gb237)); clear HB; have HB := n0_; have BK237 := n1_; have GW237 := n2_; have GE237 := n3_; clear n0_ n1_ n2_ n3_; clear hb hbox hg; have hczq2_0 : wq1.cell? ⟨gb237, 0, none⟩ = some (.slice A0_0 l0_0.length c0_0) := (zac BK237.out 0).trans rfl; have hfzq2_0 := zaf BK237.out 0) | ((with_reducible refine zaY (f := 69) rfl ?_); refine zbI (some 14) rfl rfl Tryz.func69 (by kernel_rfl) rfl #[.agg #[.slice A0_0 l0_0.length c0_0], .int .i64 a1] rfl (by (try simp only [List.map_toArray, List.map_cons, List.map_nil]); first | done | rfl | (simp only [List.length_drop, List.length_take]; rfl)) ?_; (with_reducible refine (tree_Dir.calls _ _ l0_0 a1 _ _ ?side1 ?side2 A5.out).mono ?_); (case side1 => repeat (first | exact (Kd.C_below HR0_0.out HB.out) | (with_reducible refine Kd.C_alloc ?_ _) | (with_reducible refine Kd.C_drewN ?_ _) | (with_reducible refine Kd.C_drew ?_))); (case side2 => exact HC0_0.out); rintro e wq3 ⟨rfl, hb⟩; refine ⟨_, rfl, ?_⟩; have n0_ := zaa.mk (zan (g := gb237) (o := .cells #[.slice A0_0 l0_0.length c0_0] 24 (0, 0)) (by (with_reducible repeat (first | refine zaj ?_ _ | refine zak ?_ | refine zai ?_ _)); exact BK237.out) hb); have n1_ := zaa.mk (zam (by repeat (first | (with_reducible first | exact HB.out | apply zad | apply zab | apply zae | refine zal ?_ GE237.out) | exact HB.out)) hb); clear BK237; clear HB; have BK237 := n0_; have HB := n1_; clear n0_ n1_; (try clear hb); (try clear hb2); (try clear hk); (try clear hi)) | ((with_reducible refine zaY (f := 51) rfl ?_); refine zbI (some 17) rfl rfl Tryz.func51 (by kernel_rfl) rfl #[.string a2] rfl (by (try simp only [List.map_toArray, List.map_cons, List.map_nil]); first | done | rfl | (simp only [List.length_drop, List.length_take]; rfl)) ?_; (with_reducible refine (zaM.calls k a2 _ _ A7.out).mono ?_); rintro e w' ⟨rfl, ⟨nd, rfl⟩⟩; refine ⟨_, rfl, ?_⟩; have hczq4_0 : wq3.cell? ⟨gb237, 0, none⟩ = some (.slice A0_0 l0_0.length c0_0) := (zac BK237.out 0).trans rfl; have hfzq4_0 := zaf BK237.out 0) | ((with_reducible refine zaY (f := 98) rfl ?_); refine zbI (some 25) rfl rfl Tryz.func98 (by kernel_rfl) rfl #[.agg #[.slice A0_0 l0_0.length c0_0], .int .i64 a1, .string a2] rfl (by (try simp only [List.map_toArray, List.map_cons, List.map_nil]); first | done | rfl | (simp only [List.length_drop, List.length_take]; rfl)) ?_; (with_reducible refine (zbk.calls _ _ l0_0 a1 a2 _ _ _ ?side1 ?side2 A9.out).mono ?_); (case side1 => repeat (first | exact (Kd.C_below HR0_0.out (by repeat (first | (with_reducible first | exact HB.out | apply zad | apply zab | apply zae | refine zal ?_ GE237.out) | exact HB.out))) | (with_reducible refine Kd.C_alloc ?_ _) | (with_reducible refine Kd.C_drewN ?_ _) | (with_reducible refine Kd.C_drew ?_))); (case side2 => exact HC0_0.out); rintro e wq5 ⟨rfl, hb⟩; refine ⟨_, rfl, ?_⟩; have n0_ := zaa.mk (zan (g := gb237) (o := .cells #[.slice A0_0 l0_0.length c0_0] 24 (0, 0)) (by (with_reducible repeat (first | refine zaj ?_ _ | refine zak ?_ | refine zai ?_ _)); exact BK237.out) hb); have n1_ := zaa.mk (zam (by repeat (first | (with_reducible first | exact HB.out | apply zad | apply zab | apply zae | refine zal ?_ GE237.out) | exact HB.out)) hb); clear BK237; clear HB; have BK237 := n0_; have HB := n1_; clear n0_ n1_; (try clear hb); (try clear hb2); (try clear hk); (try clear hi); have hczq6_0 : wq5.cell? ⟨gb237, 0, none⟩ = some (.slice A0_0 l0_0.length c0_0) := (zac BK237.out 0).trans rfl; have hfzq6_0 := zaf BK237.out 0; have p242 : 0 ≤ (a1 : Int) := of_decide_eq_true (by first | (with_reducible assumption) | assumption); have q242 : a1 < (l0_0.length : Int) := of_decide_eq_true (by first | (with_reducible assumption) | assumption); obtain ⟨ad242, A242_1, c242_1, A242_2, c242_2, e242, hx242_0, hx242_1, hx242_2, hx242_3, hx242_4, hx242_5, hl242_1, hi242_1, hl242_2, hi242_2⟩ := zbc HR0_0.out a1 p242 q242; cases e242; replace hx242_0 := (HB.out.cell (World.block_lt_of_cell? w _ hx242_0)).trans hx242_0; replace hx242_1 := (HB.out.cell (World.block_lt_of_cell? w _ hx242_1)).trans hx242_1; replace hx242_2 := (HB.out.cell (World.block_lt_of_cell? w _ hx242_2)).trans hx242_2; replace hx242_3 := (HB.out.cell (World.block_lt_of_cell? w _ hx242_3)).trans hx242_3; replace hx242_4 := (HB.out.cell (World.block_lt_of_cell? w _ hx242_4)).trans hx242_4; replace hx242_5 := (HB.out.cell (World.block_lt_of_cell? w _ hx242_5)).trans hx242_5; have HR242_1 := zaa.mk hi242_1; have HC242_1 := zaa.mk hl242_1; clear hi242_1 hl242_1; have HR242_2 := zaa.mk hi242_2; have HC242_2 := zaa.mk hl242_2; clear hi242_2 hl242_2; replace p242 := eq_true p242; replace q242 := eq_true q242) | ((with_reducible refine zaY (f := 98) rfl ?_); refine zbI (some 25) rfl rfl Tryz.func98 (by kernel_rfl) rfl #[.agg #[.slice A0_0 l0_0.length c0_0], .int .i64 a1, .string a2] rfl (by (try simp only [List.map_toArray, List.map_cons, List.map_nil]); first | done | rfl | (simp only [List.length_drop, List.length_take]; rfl)) ?_; (with_reducible refine (zbk.calls _ _ l0_0 a1 a2 _ _ _ ?side1 ?side2 A9.out).mono ?_); (case side1 => repeat (first | exact (Kd.C_below HR0_0.out (by repeat (first | (with_reducible first | exact HB.out | apply zad | apply zab | apply zae | refine zal ?_ GE237.out) | exact HB.out))) | (with_reducible refine Kd.C_alloc ?_ _) | (with_reducible refine Kd.C_drewN ?_ _) | (with_reducible refine Kd.C_drew ?_))); (case side2 => exact HC0_0.out); rintro e wq5 ⟨rfl, hb⟩; refine ⟨_, rfl, ?_⟩; have n0_ := zaa.mk (zan (g := gb237) (o := .cells #[.slice A0_0 l0_0.length c0_0] 24 (0, 0)) (by (with_reducible repeat (first | refine zaj ?_ _ | refine zak ?_ | refine zai ?_ _)); exact BK237.out) hb); have n1_ := zaa.mk (zam (by repeat (first | (with_reducible first | exact HB.out | apply zad | apply zab | apply zae | refine zal ?_ GE237.out) | exact HB.out)) hb); clear BK237; clear HB; have BK237 := n0_; have HB := n1_; clear n0_ n1_; (try clear hb); (try clear hb2); (try clear hk); (try clear hi); have hczq6_0 : wq5.cell? ⟨gb237, 0, none⟩ = some (.slice A0_0 l0_0.length c0_0) := (zac BK237.out 0).trans rfl; have hfzq6_0 := zaf BK237.out 0; have p242 : 0 ≤ (a1 : Int) := of_decide_eq_true (by first | (with_reducible assumption) | assumption); have q242 : a1 < (l0_0.length : Int) := of_decide_eq_true (by first | (with_reducible assumption) | assumption); obtain ⟨ad242, A242_1, c242_1, A242_2, c242_2, e242, hx242_0, hx242_1, hx242_2, hx242_3, hx242_4, hx242_5, hl242_1, hi242_1, hl242_2, hi242_2⟩ := zbc HR0_0.out a1 p242 q242; cases e242; replace hx242_0 := (HB.out.cell (World.block_lt_of_cell? w _ hx242_0)).trans hx242_0; replace hx242_1 := (HB.out.cell (World.block_lt_of_cell? w _ hx242_1)).trans hx242_1; replace hx242_2 := (HB.out.cell (World.block_lt_of_cell? w _ hx242_2)).trans hx242_2; replace hx242_3 := (HB.out.cell (World.block_lt_of_cell? w _ hx242_3)).trans hx242_3; replace hx242_4 := (HB.out.cell (World.block_lt_of_cell? w _ hx242_4)).trans hx242_4; replace hx242_5 := (HB.out.cell (World.block_lt_of_cell? w _ hx242_5)).trans hx242_5; have HR242_1 := zaa.mk hi242_1; have HC242_1 := zaa.mk hl242_1; clear hi242_1 hl242_1; have HR242_2 := zaa.mk hi242_2; have HC242_2 := zaa.mk hl242_2; clear hi242_2 hl242_2; replace p242 := eq_true p242; replace q242 := eq_true q242; have p243 : 0 ≤ (a1 : Int) := of_decide_eq_true (by first | (with_reducible assumption) | assumption); have q243 : a1 < (l0_0.length : Int) := of_decide_eq_true (by first | (with_reducible assumption) | assumption); obtain ⟨ad243, A243_1, c243_1, A243_2, c243_2, e243, hx243_0, hx243_1, hx243_2, hx243_3, hx243_4, hx243_5, hl243_1, hi243_1, hl243_2, hi243_2⟩ := zbc HR0_0.out a1 p243 q243; obtain rfl : ad242 = ad243 := (by injection e243); replace hx243_0 := (HB.out.cell (World.block_lt_of_cell? w _ hx243_0)).trans hx243_0; replace hx243_1 := (HB.out.cell (World.block_lt_of_cell? w _ hx243_1)).trans hx243_1; replace hx243_2 := (HB.out.cell (World.block_lt_of_cell? w _ hx243_2)).trans hx243_2; replace hx243_3 := (HB.out.cell (World.block_lt_of_cell? w _ hx243_3)).trans hx243_3; replace hx243_4 := (HB.out.cell (World.block_lt_of_cell? w _ hx243_4)).trans hx243_4; replace hx243_5 := (HB.out.cell (World.block_lt_of_cell? w _ hx243_5)).trans hx243_5; have HR243_1 := zaa.mk hi243_1; have HC243_1 := zaa.mk hl243_1; clear hi243_1 hl243_1; have HR243_2 := zaa.mk hi243_2; have HC243_2 := zaa.mk hl243_2; clear hi243_2 hl243_2; replace p243 := eq_true p243; replace q243 := eq_true q243; have ea_ := Option.some.inj (hx242_1.symm.trans hx243_1); injection ea_ with ea_ en_ ec_; subst ea_; subst ec_; clear en_; have ea_ := Option.some.inj (hx242_2.symm.trans hx243_2); injection ea_ with ea_ en_ ec_; subst ea_; subst ec_; clear en_) | ((with_reducible refine zaY (f := 98) rfl ?_); refine zbI (some 25) rfl rfl Tryz.func98 (by kernel_rfl) rfl #[.agg #[.slice A0_0 l0_0.length c0_0], .int .i64 a1, .string a2] rfl (by (try simp only [List.map_toArray, List.map_cons, List.map_nil]); first | done | rfl | (simp only [List.length_drop, List.length_take]; rfl)) ?_; (with_reducible refine (zbk.calls _ _ l0_0 a1 a2 _ _ _ ?side1 ?side2 A9.out).mono ?_); (case side1 => repeat (first | exact (Kd.C_below HR0_0.out (by repeat (first | (with_reducible first | exact HB.out | apply zad | apply zab | apply zae | refine zal ?_ GE237.out) | exact HB.out))) | (with_reducible refine Kd.C_alloc ?_ _) | (with_reducible refine Kd.C_drewN ?_ _) | (with_reducible refine Kd.C_drew ?_))); (case side2 => exact HC0_0.out); rintro e wq5 ⟨rfl, hb⟩; refine ⟨_, rfl, ?_⟩; have n0_ := zaa.mk (zan (g := gb237) (o := .cells #[.slice A0_0 l0_0.length c0_0] 24 (0, 0)) (by (with_reducible repeat (first | refine zaj ?_ _ | refine zak ?_ | refine zai ?_ _)); exact BK237.out) hb); have n1_ := zaa.mk (zam (by repeat (first | (with_reducible first | exact HB.out | apply zad | apply zab | apply zae | refine zal ?_ GE237.out) | exact HB.out)) hb); clear BK237; clear HB; have BK237 := n0_; have HB := n1_; clear n0_ n1_; (try clear hb); (try clear hb2); (try clear hk); (try clear hi)) | ((with_reducible refine zaY (f := 51) rfl ?_); refine zbI (some 17) rfl rfl Tryz.func51 (by kernel_rfl) rfl #[.string a2] rfl (by (try simp only [List.map_toArray, List.map_cons, List.map_nil]); first | done | rfl | (simp only [List.length_drop, List.length_take]; rfl)) ?_; (with_reducible refine (zaM.calls k a2 _ _ A7.out).mono ?_); rintro e w' ⟨rfl, ⟨nd, rfl⟩⟩; refine ⟨_, rfl, ?_⟩))
  go_ret
  exact ⟨by first | rfl | (simp [zaw, zav] <;> rfl) | (simp [*, zaw, zav] <;> rfl), by repeat (first | (with_reducible first | exact HB.out | apply zad | apply zab | apply zae | refine zal ?_ GE237.out) | exact HB.out)⟩
theorem run_copy_sz {P : Program} (w : World) (dT sT ty elem : TypeId) (g o dLen dCap : Nat) (a : Addr) (sLen sCap : Nat) (cur : Array Value) (t : TypeId) (cs : List Value) (sz m : Nat)
  (hu : P.underlying dT = some (.slice elem)) (hs : (P.info? elem).map (·.size) = some sz) (hm : Nat.min sLen dLen = m)
  (hg : w.heap[g]? = some (.cells cur t (0, 0))) (hn : cs.length = m * sz)
  (hsrc : ∀ j v, cs[j]? = some v → w.cell? (a.add j) = some v) (hfit : o + cs.length ≤ cur.size) (h1 : ∀ v ∈ cs, v.oneCell' = true) :
  (Builtin.copy_ #[dT, sT] ty #[.slice (some ⟨g, o, none⟩) dLen dCap, .slice (some a) sLen sCap]).run P w =
   .ok (goInt m) (w.setRow g (cur.toList.take o ++ cs ++ cur.toList.drop (o + cs.length)).toArray) := by
 have hl := run_loadCells_list (P := P) w a cs hsrc
 have hst := run_storeCells_at P g o t cs 0 cur w hg (by simpa using hfit) h1
 cases hq : P.info? elem with
 | none => simp [hq] at hs
 | some i =>
  have hi : i.size = sz := by simpa [hq] using hs
  simp [Builtin.copy_, run_underlying hu, Builtin.lenOf, Builtin.firstCells, sizeOf, typeInfo, hq, hi, hm, ← hn, hl, hst]
theorem apart_run {w : World} {vb g : Nat} {A B : Array Value} {tA tB e tS tR : TypeId} (n la ca lb cb off : Nat) (ht : Tryz.prog.underlying tS = some (.slice e)) (hz : ∀ w, (Go.sizeOf e).run Tryz.prog w = .ok n w) (hne : vb ≠ g) (hA : w.heap[vb]? = some (.cells A tA (0, 0))) (hB : w.heap[g]? = some (.cells B tB (0, 0))) (hB0 : B.size ≠ 0) :
  (Extern.SlicesOverlaps.overlaps #[tS, tS] #[tR] #[.slice (some ⟨vb, 0, none⟩) la ca, .slice (some ⟨g, off, none⟩) lb cb]).run Tryz.prog w = .ok (.bool false) w :=
 Lib.run_overlaps_apart w tS tR e ht n hz ⟨vb, 0, none⟩ ⟨g, off, none⟩ la ca lb cb hne tA tB A.size B.size (by simp [World.shape?, hA]) (by simp [World.shape?, hB]) hB0 (by simp [World.frozen?, hA]) (by simp [World.frozen?, hA])
theorem zaA.size50 : (Tryz.prog.info? 50).map (·.size) = some 2 := by
 obtain ⟨i0, hi0, _, hsz, _⟩ := info_parts info50
 rw [hi0]; simp [hsz]
theorem zaA.sizeOf50 (w : World) : (Go.sizeOf 50).run Tryz.prog w = .ok 2 w := by
 obtain ⟨i0, hi0, _, hsz, _⟩ := info_parts info50
 simp [sizeOf, typeInfo, hi0, hsz]
theorem zaA.overlaps_run {w : World} {vb g : Nat} {A B : Array Value} (la ca lb cb off : Nat) (hne : vb ≠ g) (hA : w.heap[vb]? = some (.cells A 50 (0, 0))) (hB : w.heap[g]? = some (.cells B 50 (0, 0))) (hB0 : B.size ≠ 0) :
  (callFunc 109 #[.slice (some ⟨vb, 0, none⟩) la ca, .slice (some ⟨g, off, none⟩) lb cb]).run Tryz.prog w = .ok (.value (.bool false)) w := by
 rw [run_callFunc_extern Tryz.func109 (by kernel_rfl) (by kernel_rfl) (by kernel_rfl) (e := Extern.SlicesOverlaps.overlaps #[38, 38] #[4]) (by kernel_rfl),
  apart_run 2 la ca lb cb off Tryz.underlying38 zaA.sizeOf50 hne hA hB hB0]
 rfl
theorem insert_list {L cs vs : List Value} {i n c : Nat} (hL : L.length = c * 2) (hcs : L.take (n * 2) = cs) (hi : i < n) (hc : n + 1 ≤ c) (hv : vs.length = 2) :
  ((L.take ((i + 1) * 2) ++ cs.drop (i * 2) ++ L.drop ((i + 1) * 2 + (cs.drop (i * 2)).length)).take (i * 2) ++ vs ++ (L.take ((i + 1) * 2) ++ cs.drop (i * 2) ++ L.drop ((i + 1) * 2 + (cs.drop (i * 2)).length)).drop (i * 2 + vs.length)).take ((n + 1) * 2) = cs.take (i * 2) ++ vs ++ cs.drop (i * 2) := by
 have hl : cs.length = n * 2 := by rw [← hcs, List.length_take, hL]; omega
 have h1 : (L.take ((i + 1) * 2)).length = (i + 1) * 2 := by rw [List.length_take, hL]; omega
 have e1 : (L.take ((i + 1) * 2) ++ cs.drop (i * 2) ++ L.drop ((i + 1) * 2 + (cs.drop (i * 2)).length)).take (i * 2) = cs.take (i * 2) := by
  rw [List.append_assoc, List.take_append_of_le_length (by omega), List.take_take, ← hcs, List.take_take]; congr 1; omega
 have e2 : (L.take ((i + 1) * 2) ++ cs.drop (i * 2) ++ L.drop ((i + 1) * 2 + (cs.drop (i * 2)).length)).drop (i * 2 + vs.length) = cs.drop (i * 2) ++ L.drop ((i + 1) * 2 + (cs.drop (i * 2)).length) := by
  rw [List.append_assoc, List.drop_append, List.drop_eq_nil_of_le (by omega), List.nil_append, show i * 2 + vs.length - (L.take ((i + 1) * 2)).length = 0 by omega, List.drop_zero]
 rw [e1, e2, ← List.append_assoc, List.take_append_of_le_length (by simp; omega), List.take_of_length_le (by simp; omega)]
set_option maxHeartbeats 4000000 in
set_option maxRecDepth 100000 in
theorem zaA.shift (w : World) (g n c i vb : Nat) (cs vs : List Value) (cur : Array Value) (hi : i < n) (hroom : n + 1 ≤ c) (hc63 : c ≤ 9223372036854775807) (hvb : vb ≠ g)
  (hg : w.heap[g]? = some (.cells cur 50 (0, 0))) (hcur : cur.size = c * 2) (hcs : cur.toList.take (n * 2) = cs) (h1 : ∀ v ∈ cs, v.oneCell' = true) (hvl : vs.length = 2) (h1v : ∀ v ∈ vs, v.oneCell' = true) (hv : w.heap[vb]? = some (.cells vs.toArray 50 (0, 0))) :
  Calls Tryz.prog 99 #[.slice (some ⟨g, 0, none⟩) n c, .int .i64 i, .slice (some ⟨vb, 0, none⟩) 1 1] w fun e w' => e = .returned (.slice (some ⟨g, 0, none⟩) (n + 1) c) ∧
   (∃ cur', w'.heap[g]? = some (.cells cur' 50 (0, 0)) ∧ cur'.size = c * 2 ∧ cur'.toList.take ((n + 1) * 2) = cs.take (i * 2) ++ vs ++ cs.drop (i * 2)) ∧ w.grownBy w' (some g) := by
 have hsl := Tryz.underlying38
 have hz2 : ((i : Int) == (n : Int)) = false := by simp; omega
 have hz2b : (i == n) = false := by simp; omega
 have hz3 : decide ((c : Int) < (n : Int) + 1) = false := decide_eq_false (by omega)
 have hz3b : decide (c < n + 1) = false := decide_eq_false (by omega)
 have hb2 : ¬ (c = i + 1) := by omega
 have hb4 : ¬ (c = i) := by omega
 have hin : i ≤ n := by omega
 have hin1 : i + 1 ≤ n + 1 := by omega
 have hw1 : IntKind.i64.wrap ((i : Int) + 1) = (i : Int) + 1 := by rw [IntKind.wrap_i64]; omega
 have hb1 : (0 : Int) ≤ (i : Int) + 1 := by omega
 have htn : ((i : Int) + 1).toNat = i + 1 := by omega
 have hb3 : (i : Int) + 1 ≤ (n : Int) + 1 := by omega
 have hb3b : (i : Int) ≤ (n : Int) := by omega
 have hb5 : (i : Int) ≤ (n : Int) + 1 := by omega
 have mixed : Tryz.prog.follows .mixedOrders = true := by kernel_rfl
 have hov := fun la ca lb cb off => zaA.overlaps_run la ca lb cb off hvb hv hg (by omega)
 have hinl : cs.length = n * 2 := by rw [← hcs, List.length_take, Array.length_toList, hcur]; omega
 have hdl : (cs.drop (i * 2)).length = (n - i) * 2 := by rw [List.length_drop, hinl]; omega
 have hcell : ∀ (W : World) (j : Nat) (v : Value), W.heap[g]? = some (.cells cur 50 (0, 0)) → (cs.drop (i * 2))[j]? = some v → W.cell? ((⟨g, i * 2, none⟩ : Addr).add j) = some v := fun W j v hW hj => by
  rw [Addr.add_lit, List.getElem?_drop, ← hcs, List.getElem?_take] at *
  split at hj
  ·simp [World.cell?, hW, ← hj]
  ·cases hj
 obtain ⟨r1, hr1⟩ : ∃ r1, r1 = cur.toList.take ((i + 1) * 2) ++ cs.drop (i * 2) ++ cur.toList.drop ((i + 1) * 2 + (cs.drop (i * 2)).length) := ⟨_, rfl⟩
 obtain ⟨W1, hW1⟩ : ∃ W1, W1 = w.drew.setRow g r1.toArray := ⟨_, rfl⟩
 have hcp1 : ∀ ty dc sc, (Builtin.copy_ #[38, 38] ty #[.slice (some ⟨g, (i + 1) * 2, none⟩) (n - i) dc, .slice (some ⟨g, i * 2, none⟩) (n + 1 - i) sc]).run Tryz.prog w.drew = .ok (goInt ((n - i : Nat))) W1 := fun ty dc sc => by
  rw [hW1, hr1]
  exact run_copy_sz w.drew _ _ ty 50 g ((i + 1) * 2) (n - i) dc ⟨g, i * 2, none⟩ (n + 1 - i) sc cur 50 (cs.drop (i * 2)) 2 (n - i) Tryz.underlying38 zaA.size50 (by simp only [Nat.min_def]; split <;> omega) hg hdl (fun j v hj => hcell w.drew j v hg hj) (by rw [hdl, hcur]; omega) (fun v hv => h1 v (List.mem_of_mem_drop hv))
 have hg1 : W1.heap[g]? = some (.cells r1.toArray 50 (0, 0)) := by rw [hW1]; exact setRow_heap w.drew g cur _ _ _ hg
 have hr1l : r1.length = c * 2 := by
  rw [hr1]; simp only [List.length_append, List.length_take, List.length_drop, Array.length_toList, hcur]; simp only [List.length_drop] at hdl; omega
 obtain ⟨W2, hW2⟩ : ∃ W2, W2 = W1.setRow g (r1.take (i * 2) ++ vs ++ r1.drop (i * 2 + vs.length)).toArray := ⟨_, rfl⟩
 have hv1 : W1.heap[vb]? = some (.cells vs.toArray 50 (0, 0)) := by rw [hW1, setRow_other _ _ _ _ hvb]; exact hv
 have hcp2 : ∀ ty dl dc, 1 ≤ dl → (Builtin.copy_ #[38, 38] ty #[.slice (some ⟨g, i * 2, none⟩) dl dc, .slice (some ⟨vb, 0, none⟩) 1 1]).run Tryz.prog W1 = .ok (goInt 1) W2 := fun ty dl dc hm => by
  rw [hW2]
  exact run_copy_sz W1 _ _ ty 50 g (i * 2) dl dc ⟨vb, 0, none⟩ 1 1 r1.toArray 50 vs 2 1 Tryz.underlying38 zaA.size50 (by simp only [Nat.min_def]; split <;> omega) hg1 (by omega) (fun j v hj => by rw [Addr.add_lit]; simp [World.cell?, hv1, hj]) (by rw [hvl]; simp only [List.size_toArray, hr1l]; omega) h1v
 have hw1 : IntKind.i64.wrap ((i : Int) + 1) = (i : Int) + 1 := by rw [IntKind.wrap_i64]; omega
 have hb1 : (0 : Int) ≤ (i : Int) + 1 := by omega
 have htn : ((i : Int) + 1).toNat = i + 1 := by omega
 have hb3 : (i : Int) + 1 ≤ (n : Int) + 1 := by omega
 have hb3b : (i : Int) ≤ (n : Int) := by omega
 have hb5 : (i : Int) ≤ (n : Int) + 1 := by omega
 have mixed : Tryz.prog.follows .mixedOrders = true := by kernel_rfl
 have hov := fun la ca lb cb off => zaA.overlaps_run la ca lb cb off hvb hv hg (by omega)
 have HW1 := zaa.mk hW1
 have HR1 := zaa.mk hr1
 have HW2 := zaa.mk hW2
 have HCS := zaa.mk hcs
 have HG := zaa.mk hg
 have HG1 := zaa.mk hg1
 have HRL := zaa.mk hr1l
 have HDL := zaa.mk hdl
 have HIL := zaa.mk hinl
 have HCU := zaa.mk hcur
 have hcp3 : ∀ ty dc, (Builtin.copy_ #[38, 38] ty #[.slice (some ⟨g, i * 2, none⟩) (n + 1 - i) dc, .slice (some ⟨vb, 0, none⟩) 1 1]).run Tryz.prog W1 = .ok (goInt 1) W2 := fun ty dc => hcp2 ty _ dc (by omega)
 clear hW1 hr1 hW2 hcs hg hg1 hr1l hdl hinl hcur hcell hcp2 h1 h1v hv hv1
 go_enter Tryz.func99, Tryz.ntmps99
 go_wp2_with (simp only [hov])
 go_region_law_o (refine step_copy_runI rfl _ _ 38 38 rfl _ _ (by simp [Act.eval, Act.put]) (by simp [Act.eval, Act.put]) (hcp1 _ _ _) ?_)
 go_wp2_with (refine wpList_copy_runI _ rfl _ _ 38 38 rfl _ _ rfl rfl (hcp3 _ _) ?_)
 go_ret
 have HL : cur.toList.length = c * 2 := by rw [Array.length_toList]; exact HCU.out
 have HLi := insert_list HL HCS.out hi hroom hvl
 rw [← HR1.out] at HLi
 refine ⟨rfl, ⟨_, by rw [HW2.out]; exact setRow_heap W1 g _ _ _ _ HG1.out, ?_, HLi⟩, ?_⟩
 ·have := HRL.out
  simp only [List.size_toArray, List.length_append, List.length_take, List.length_drop, this, hvl]; omega
 ·rw [HW2.out, HW1.out]
  exact ⟨rfl, rfl, rfl, by simp [World.setRow], fun k _ hk => by
   have hne : k ≠ g := fun e => hk (by rw [e])
   rw [setRow_other _ _ _ _ hne, setRow_other _ _ _ _ hne]; rfl⟩
theorem insert_list2 {L cs vs : List Value} {i n G : Nat} (hL : L.length = G * 2) (hcl : cs.length = n * 2) (hcs : L.take (i * 2) = cs.take (i * 2)) (hi : i < n) (hc : n + 1 ≤ G) (hv : vs.length = 2) (r1 : List Value) (hr1 : r1 = L.take (i * 2) ++ vs ++ L.drop (i * 2 + vs.length)) :
  (r1.take ((i + 1) * 2) ++ cs.drop (i * 2) ++ r1.drop ((i + 1) * 2 + (cs.drop (i * 2)).length)).take ((n + 1) * 2) = cs.take (i * 2) ++ vs ++ cs.drop (i * 2) := by
 have h1 : (L.take (i * 2) ++ vs).length = (i + 1) * 2 := by rw [List.length_append, List.length_take, hL, hv]; omega
 have e1 : r1.take ((i + 1) * 2) = cs.take (i * 2) ++ vs := by
  rw [hr1, List.take_append_of_le_length (by omega), List.take_of_length_le (by omega), hcs]
 have h2 : (cs.take (i * 2) ++ vs).length = (i + 1) * 2 := by rw [← hcs]; exact h1
 rw [e1, List.take_append_of_le_length (by rw [List.length_append, h2, List.length_drop, hcl]; omega), List.take_of_length_le (by rw [List.length_append, h2, List.length_drop, hcl]; omega)]
set_option maxHeartbeats 4000000 in
set_option maxRecDepth 100000 in
theorem zaA.grow (w : World) (g n c i vb : Nat) (cs vs : List Value) (cur : Array Value) (hi : i < n) (hnc : n ≤ c) (hroom : c < n + 1) (hbig : (n + 1) * 24 ≤ 140737488355328)
  (hg : w.heap[g]? = some (.cells cur 50 (0, 0))) (hcur : cur.size = c * 2) (hcs : cur.toList.take (n * 2) = cs) (h1 : ∀ v ∈ cs, v.oneCell' = true) (hvl : vs.length = 2) (h1v : ∀ v ∈ vs, v.oneCell' = true) (hv : w.heap[vb]? = some (.cells vs.toArray 50 (0, 0))) :
  Calls Tryz.prog 99 #[.slice (some ⟨g, 0, none⟩) n c, .int .i64 i, .slice (some ⟨vb, 0, none⟩) 1 1] w fun e w' => ∃ G, e = .returned (.slice (some ⟨w.heap.size, 0, none⟩) (n + 1) G) ∧ n + 1 ≤ G ∧ G ≤ maxLen ∧
   (∃ cur', w'.heap[w.heap.size]? = some (.cells cur' 50 (0, 0)) ∧ cur'.size = G * 2 ∧ cur'.toList.take ((n + 1) * 2) = cs.take (i * 2) ++ vs ++ cs.drop (i * 2)) ∧ w.grownBy w' none := by
 have hsl := Tryz.underlying38
 have hin0 := Tryz.underlying3
 have hz2 : ((i : Int) == (n : Int)) = false := by simp; omega
 have hz2b : (i == n) = false := by simp; omega
 have hz3 : decide ((c : Int) < (n : Int) + 1) = true := decide_eq_true (by omega)
 have hz3b : decide (c < n + 1) = true := decide_eq_true (by omega)
 have hb4 : ¬ (c = i) := by omega
 have hin : i ≤ n := by omega
 have hin1 : i + 1 ≤ n + 1 := by omega
 have hgw : g < w.heap.size := zaO hg
 have hvw : vb < w.heap.size := zaO hv
 have hinl : cs.length = n * 2 := by rw [← hcs, List.length_take, Array.length_toList, hcur]; omega
 have hdl : (cs.drop (i * 2)).length = (n - i) * 2 := by rw [List.length_drop, hinl]; omega
 have hcell : ∀ (W : World) (o j : Nat) (v : Value), W.heap[g]? = some (.cells cur 50 (0, 0)) → cs[o + j]? = some v → W.cell? ((⟨g, o, none⟩ : Addr).add j) = some v := fun W o j v hW hj => by
  rw [Addr.add_lit, ← hcs, List.getElem?_take] at *
  split at hj
  ·simp [World.cell?, hW, ← hj]
  ·cases hj
 obtain ⟨i0, hi0, hz0, hzs, hzb⟩ := info_parts info50
 have hold : (Builtin.firstCells i0.size i (.slice (some ⟨g, 0, none⟩) i c)).run Tryz.prog w.drew = .ok (cs.take (i * 2)).toArray w.drew := by
  rw [hzs]
  exact run_firstCells_some w.drew 2 i ⟨g, 0, none⟩ i c (cs.take (i * 2)) (by rw [List.length_take]; omega) (fun j v hj => by
   rw [List.getElem?_take] at hj
   split at hj
   ·exact hcell w.drew 0 j v hg (by rw [Nat.zero_add]; exact hj)
   ·cases hj)
 have hik : i + (n + 1 - i) = n + 1 := by omega
 obtain ⟨G, hG⟩ : ∃ G, G = grownCap w (n + 1) c 50 := ⟨_, rfl⟩
 obtain ⟨row, hrow⟩ : ∃ row : List Value, row = ((cs.take (i * 2)).toArray ++ Builtin.zeroCells (Value.agg #[.string ⟨#[]⟩, .int .i64 0]).cells (n + 1 - i) ++ Builtin.zeroCells (Value.agg #[.string ⟨#[]⟩, .int .i64 0]).cells (G - (n + 1))).toList := ⟨_, rfl⟩
 obtain ⟨W0, hW0⟩ : ∃ W0, W0 = w.drew.alloc (.cells row.toArray 50) := ⟨_, rfl⟩
 have hrz : ∀ ty, (Builtin.append_ #[38, 3] ty #[.slice (some ⟨g, 0, none⟩) i c, .int .i64 ((n : Int) + 1 - (i : Int))]).run Tryz.prog w = .ok (.slice (some ⟨w.heap.size, 0, none⟩) (n + 1) G) W0 := fun ty => by
  have h := Lib.run_append_grow_zeros w 38 3 ty 50 i0 _ .i64 .i64 Tryz.underlying38 Tryz.underlying3 hi0 hz0 (some ⟨g, 0, none⟩) i c (cs.take (i * 2)) hold (n + 1 - i) (by omega) (by omega) (by omega) (by omega) (by rw [hzb]; omega) (by rw [hzb, hik]; exact growslice_fits hroom hbig)
  rw [hik, ← hG] at h
  rw [show (n : Int) + 1 - (i : Int) = ((n + 1 - i : Nat) : Int) by omega, h, hW0, hrow, Array.toArray_toList]
 have hGn : n + 1 ≤ G := by rw [hG]; exact grownCap_ge w _ _ _
 have hGm : G ≤ maxLen := by rw [hG]; exact grownCap_le_maxLen w (n + 1) c 50 (by unfold maxLen; omega)
 have hG63 : G ≤ 9223372036854775807 := by have := hGm; unfold maxLen at this; omega
 have hrl : row.length = G * 2 := by
  rw [hrow]; simp only [Array.toList_append, List.length_append, List.length_take, Array.length_toList, size_zeroCells, hinl]
  simp [Value.cells]; omega
 have hrt : row.take (i * 2) = cs.take (i * 2) := by
  rw [hrow, Array.toList_append, Array.toList_append, List.append_assoc]
  show (cs.take (i * 2) ++ _).take _ = _
  rw [List.take_append_of_le_length (by rw [List.length_take]; omega), List.take_take, Nat.min_self]
 have hg0 : W0.heap[w.heap.size]? = some (.cells row.toArray 50 (0, 0)) := by rw [hW0]; exact heap_alloc_new w.drew _
 have hlow : ∀ k, k < w.heap.size → W0.heap[k]? = w.heap[k]? := fun k hk => by rw [hW0, Below.heap_alloc w.drew _ k hk]; rfl
 obtain ⟨r1, hr1⟩ : ∃ r1, r1 = row.take (i * 2) ++ vs ++ row.drop (i * 2 + vs.length) := ⟨_, rfl⟩
 obtain ⟨W1, hW1⟩ : ∃ W1, W1 = W0.setRow w.heap.size r1.toArray := ⟨_, rfl⟩
 have hcpA : ∀ ty dc, (Builtin.copy_ #[38, 38] ty #[.slice (some ⟨w.heap.size, i * 2, none⟩) (n + 1 - i) dc, .slice (some ⟨vb, 0, none⟩) 1 1]).run Tryz.prog W0 = .ok (goInt 1) W1 := fun ty dc => by
  rw [hW1, hr1]
  exact run_copy_sz W0 _ _ ty 50 w.heap.size (i * 2) (n + 1 - i) dc ⟨vb, 0, none⟩ 1 1 row.toArray 50 vs 2 1 Tryz.underlying38 zaA.size50 (by simp only [Nat.min_def]; split <;> omega) hg0 (by omega) (fun j v hj => by rw [Addr.add_lit]; simp [World.cell?, hlow vb hvw, hv, hj]) (by rw [hvl]; simp only [List.size_toArray, hrl]; omega) h1v
 have hg1 : W1.heap[w.heap.size]? = some (.cells r1.toArray 50 (0, 0)) := by rw [hW1]; exact setRow_heap W0 _ _ _ _ _ hg0
 have hr1l : r1.length = G * 2 := by
  rw [hr1]; simp only [List.length_append, List.length_take, List.length_drop, hrl, hvl]; omega
 have hgg : W1.drew.heap[g]? = some (.cells cur 50 (0, 0)) := by
  show W1.heap[g]? = _
  rw [hW1, setRow_other _ _ _ _ (by omega), hlow g hgw]; exact hg
 obtain ⟨W2, hW2⟩ : ∃ W2, W2 = W1.drew.setRow w.heap.size (r1.take ((i + 1) * 2) ++ cs.drop (i * 2) ++ r1.drop ((i + 1) * 2 + (cs.drop (i * 2)).length)).toArray := ⟨_, rfl⟩
 have hcpB : ∀ ty dc sc, (Builtin.copy_ #[38, 38] ty #[.slice (some ⟨w.heap.size, (i + 1) * 2, none⟩) (n - i) dc, .slice (some ⟨g, i * 2, none⟩) (n - i) sc]).run Tryz.prog W1.drew = .ok (goInt ((n - i : Nat))) W2 := fun ty dc sc => by
  rw [hW2]
  exact run_copy_sz W1.drew _ _ ty 50 w.heap.size ((i + 1) * 2) (n - i) dc ⟨g, i * 2, none⟩ (n - i) sc r1.toArray 50 (cs.drop (i * 2)) 2 (n - i) Tryz.underlying38 zaA.size50 (by simp only [Nat.min_def]; split <;> omega) hg1 hdl (fun j v hj => hcell _ (i * 2) j v hgg (by rwa [List.getElem?_drop] at hj)) (by rw [hdl]; simp only [List.size_toArray, hr1l]; omega) (fun v hv => h1 v (List.mem_of_mem_drop hv))
 have hw1 : IntKind.i64.wrap ((i : Int) + 1) = (i : Int) + 1 := by rw [IntKind.wrap_i64]; omega
 have hb1 : (0 : Int) ≤ (i : Int) + 1 := by omega
 have htn : ((i : Int) + 1).toNat = i + 1 := by omega
 have hb3 : (i : Int) + 1 ≤ (n : Int) + 1 := by omega
 have hb3b : (i : Int) ≤ (n : Int) := by omega
 have hb5 : (i : Int) ≤ (n : Int) + 1 := by omega
 have hGi : ¬ (G = i) := by omega
 have hGi1 : ¬ (G = i + 1) := by omega
 have mixed : Tryz.prog.follows .mixedOrders = true := by kernel_rfl
 have HW0 := zaa.mk hW0
 have HW1 := zaa.mk hW1
 have HR1 := zaa.mk hr1
 have HW2 := zaa.mk hW2
 have HG := zaa.mk hg
 have HG1 := zaa.mk hg1
 have HRL := zaa.mk hr1l
 have HRT := zaa.mk hrt
 have HROW := zaa.mk hrl
 have HDL := zaa.mk hdl
 have HIL := zaa.mk hinl
 have HGN := zaa.mk hGn
 have HGM := zaa.mk hGm
 have HLO := zaa.mk hlow
 clear hW0 hW1 hr1 hW2 hcs hg hg1 hr1l hdl hinl hcur hcell h1 h1v hv hold hik hG hrow hGn hGm hrl hrt hg0 hlow hgg hi0 hz0 hzs hzb hgw hvw
 go_enter Tryz.func99, Tryz.ntmps99
 go_wp2_with (first | (at_builtin; refine Lib.wpList_append_run _ rfl _ _ _ _ rfl _ _ rfl rfl _ _ (hrz _) ?_) | (refine wpList_copy_runI _ rfl _ _ 38 38 rfl _ _ rfl rfl (hcpA _ _) ?_))
 go_region_law_o (refine step_copy_runI rfl _ _ 38 38 rfl (.slice (some ⟨w.heap.size, (i + 1) * 2, none⟩) (n - i) (G - (i + 1))) (.slice (some ⟨g, i * 2, none⟩) (n - i) (c - i)) (by simp [Act.eval, Act.put]) (by simp [Act.eval, Act.put]) (hcpB _ _ _) ?_)
 go_wp2
 go_ret
 have HLi := insert_list2 HROW.out HIL.out HRT.out hi HGN.out hvl r1 HR1.out
 refine ⟨G, rfl, HGN.out, HGM.out, ⟨_, by rw [HW2.out]; exact setRow_heap W1.drew _ _ _ _ _ HG1.out, ?_, HLi⟩, ?_⟩
 ·have h1 := HRL.out; have h2 := HDL.out; have h3 := HGN.out
  simp only [List.size_toArray, List.length_append, List.length_take, h2, h1]; rw [List.length_drop, h1]; omega
 ·rw [HW2.out, HW1.out]
  refine ⟨by rw [HW0.out]; rfl, by rw [HW0.out]; rfl, by rw [HW0.out]; rfl, ?_, fun k hlt _ => ?_⟩
  ·rw [HW0.out]; simp [World.setRow]
  ·have hne : k ≠ w.heap.size := by omega
   rw [setRow_other _ _ _ _ hne]
   show (W0.setRow _ _).heap[k]? = _
   rw [setRow_other _ _ _ _ hne]
   exact HLO.out k hlt
set_option maxHeartbeats 4000000 in
set_option maxRecDepth 100000 in
theorem zaA.ended (W : World) (base : Nat) (ok : Nat → Prop) (v : Value) (ns : List S50) (x : S50) (HO : k50.R 50 W base ok v ns) (hfresh : ∀ k, W.heap.size ≤ k → ok k) (hbase : base ≤ W.heap.size) (hl : (ns.length + 1) * 24 ≤ 140737488355328) :
  Calls Tryz.prog 99 #[v, .int .i64 ns.length, .slice (some ⟨W.heap.size, 0, none⟩) 1 1] (W.alloc (.cells #[.string x.f0, .int .i64 x.f1] 50)) fun e w' => ∃ v1, e = .returned v1 ∧ k50.R 50 w' base ok v1 (ns ++ [x]) ∧ W.grownBy w' v.ownBlock ∧ (v1.ownBlock = v.ownBlock ∨ ∃ b, v1.ownBlock = some b ∧ W.heap.size ≤ b) := by
 have hsl := Tryz.underlying38
 have HH := zaa.mk HO
 obtain ⟨A, c, rfl⟩ := Kd.zbP HO
 obtain ⟨_, hnc, _⟩ := Kd.zbR HO
 have hin : ns.length ≤ 9223372036854775807 := by omega
 have HF := zaa.mk hfresh
 clear HO hfresh
 go_enter Tryz.func99, Tryz.ntmps99
 go_wp2_with (first | (at_builtin; refine Kd.R_append k50 (w0 := W) base rfl (.tmp 23) (.tmp 24) 38 50 (.agg #[.string ⟨#[]⟩, .int .i64 0]) 24 rfl Tryz.underlying38 info50 rfl (by decide) (by omega) (.slice A ns.length c) ns x [.string x.f0, .int .i64 x.f1] ok (fun _ => False) rfl rfl (k50_mkM _ _ _ x) (fun _ hk => hk.elim) HF.out HH.out (Below.refl _ _) hbase hl ?_; intro v1 w2 hr2 hb2 hg2 hat; have HR2 := zaa.mk hr2; have HG2 := zaa.mk hg2; have HAT := zaa.mk hat; clear hr2 hb2 hg2 hat))
 all_goals go_ret
 all_goals first | exact ⟨_, rfl, HR2.out, HG2.out, HAT.out⟩ | (cases A <;> exact ⟨_, rfl, HR2.out, HG2.out, HAT.out⟩)
theorem zaA.calls (W : World) (base : Nat) (ok : Nat → Prop) (v : Value) (ns : List S50) (x : S50) (i : Nat) (hi : i ≤ ns.length) (HO : k50.R 50 W base ok v ns) (hfresh : ∀ k, W.heap.size ≤ k → ok k) (hbase : base ≤ W.heap.size) (hl : (ns.length + 1) * 24 ≤ 140737488355328) :
  Calls Tryz.prog 99 #[v, .int .i64 i, .slice (some ⟨W.heap.size, 0, none⟩) 1 1] (W.alloc (.cells #[.string x.f0, .int .i64 x.f1] 50)) fun e w' => ∃ v1, e = .returned v1 ∧ k50.R 50 w' base ok v1 (ns.take i ++ x :: ns.drop i) ∧ W.grownBy w' v.ownBlock ∧ (v1.ownBlock = v.ownBlock ∨ ∃ b, v1.ownBlock = some b ∧ W.heap.size ≤ b) := by
 rcases Nat.lt_or_ge i ns.length with hlt | hge
 ·obtain ⟨h0, inner, ⟨hil, hown⟩, hrep⟩ := HO
  have hil2 : inner.length = ns.length * 2 := hil
  rcases hown with ⟨_, hn⟩ | ⟨g, cap, cur, rfl, hb, hg, hnc, hcm, hcs, ht⟩
  ·omega
  have hgW := zaO hg
  have hown' : (Value.slice (some ⟨g, 0, none⟩) ns.length cap).ownBlock = some g := rfl
  have ha : (W.alloc (.cells #[.string x.f0, .int .i64 x.f1] 50)).heap[g]? = some (.cells cur 50 (0, 0)) := by rw [Below.heap_alloc _ _ _ hgW]; exact hg
  have hv := heap_alloc_new W (.cells #[.string x.f0, .int .i64 x.f1] 50)
  have h1 : ∀ u ∈ inner, u.oneCell' = true := Kd.reps_one hrep (by decide) (fun p c hp => by rw [k50_openM hp]; intro u hu; simp only [List.mem_cons, List.not_mem_nil, or_false] at hu; rcases hu with rfl | rfl <;> rfl)
  have h1v : ∀ u ∈ [Value.string x.f0, .int .i64 x.f1], u.oneCell' = true := by intro u hu; simp only [List.mem_cons, List.not_mem_nil, or_false] at hu; rcases hu with rfl | rfl <;> rfl
  have hre : ∀ (w' : World) (ok' : Nat → Prop), Reps (k50.M w' base ok') 2 (ns.take i ++ x :: ns.drop i) (inner.take (i * 2) ++ [Value.string x.f0, .int .i64 x.f1] ++ inner.drop (i * 2)) := fun w' ok' => by
   have hrep' : Reps (k50.M w' base ok') 2 ns inner := hrep.imp_ (fun p c hp => by rw [k50_openM hp]; exact k50_mkM _ _ _ p)
   have h2 := (Kd.reps_take (m := i) hrep' (by omega)).snoc (k50_mkM w' base ok' x) rfl
   have h3 := Kd.reps_append h2 (Kd.reps_drop (m := i) hrep')
   rwa [List.append_assoc, List.singleton_append] at h3
  have hlen : (ns.take i ++ x :: ns.drop i).length = ns.length + 1 := by simp; omega
  have hlen2 : (inner.take (i * 2) ++ [Value.string x.f0, .int .i64 x.f1] ++ inner.drop (i * 2)).length = (ns.length + 1) * 2 := by simp; omega
  rcases Nat.lt_or_ge ns.length cap with hroom | hfull
  ·refine (zaA.shift (W.alloc (.cells #[.string x.f0, .int .i64 x.f1] 50)) g ns.length cap i W.heap.size inner [.string x.f0, .int .i64 x.f1] cur hlt hroom (by unfold maxLen at hcm; omega) (by omega) ha hcs ht h1 rfl h1v hv).mono ?_
   rintro e w' ⟨rfl, ⟨cur', hc1, hc2, hc3⟩, hgr⟩
   have hgr2 := (World.grownBy_alloc W (.cells #[.string x.f0, .int .i64 x.f1] 50) (some g)).trans hgr
   refine ⟨_, rfl, ⟨fun k hk => ?_, _, ⟨by rw [hlen2, hlen]; rfl, .inr ⟨g, cap, cur', by rw [hlen], hb, hc1, by rw [hlen]; omega, hcm, hc2, by rw [hlen]; exact hc3⟩⟩, hre _ _⟩, hgr2, .inl rfl⟩
   exact h0 k hk
  ·refine (zaA.grow (W.alloc (.cells #[.string x.f0, .int .i64 x.f1] 50)) g ns.length cap i W.heap.size inner [.string x.f0, .int .i64 x.f1] cur hlt hnc (by omega) hl ha hcs ht h1 rfl h1v hv).mono ?_
   have hsz : (W.alloc (.cells #[.string x.f0, .int .i64 x.f1] 50)).heap.size = W.heap.size + 1 := World.size_alloc _ _
   rw [hsz]
   rintro e w' ⟨G, rfl, hG1, hG2, ⟨cur', hc1, hc2, hc3⟩, hgr⟩
   have hgr2 := (World.grownBy_alloc W (.cells #[.string x.f0, .int .i64 x.f1] 50) (some g)).trans (hgr.but (some g))
   refine ⟨_, rfl, ⟨fun k hk => hfresh k ?_, _, ⟨by rw [hlen2, hlen]; rfl, .inr ⟨W.heap.size + 1, G, cur', by rw [hlen], by omega, hc1, by rw [hlen]; omega, hG2, hc2, by rw [hlen]; exact hc3⟩⟩, hre _ _⟩, hgr2, .inr ⟨W.heap.size + 1, rfl, by omega⟩⟩
   have : k = W.heap.size + 1 := (Option.some.inj hk).symm
   omega
 ·obtain rfl : i = ns.length := by omega
  rw [List.take_of_length_le (Nat.le_refl _), List.drop_eq_nil_of_le (Nat.le_refl _)]
  exact zaA.ended W base ok v ns x HO hfresh hbase hl
theorem slice_any {α : Type} {d : Kd α} {e : Nat} {w : World} {base : Nat} {ok : Nat → Prop} {v : Value} {xs : List α} (h : d.R e w base ok v xs) : ∃ A m c, v = .slice A m c := by
 obtain ⟨A, c, e⟩ := Kd.zbP h
 exact ⟨A, _, c, e⟩
theorem named_anew {w2 : World} {base g c : Nat} {ok : Nat → Prop} {l : List S40} (hS : Kd.S k40 40 w2 base ok (.slice (some ⟨g, 0, none⟩) l.length c) l) (x : Int) (h0 : 0 ≤ x) (h1 : x < (l.length : Int)) :
  ∃ (oki : Nat → Prop) (v2 : Value), w2.cell? ⟨g, x.toNat * 6 + 2, none⟩ = some v2 ∧ k50.R 50 w2 base oki v2 (zah l x).f2 ∧ (∀ k, oki k → ok k ∧ k ≠ g) ∧ ok g ∧ g < w2.heap.size ∧ base ≤ g ∧
   ∀ (w3 : World) (v2' : Value) (ns' : List S50), w2.grownBy w3 v2.ownBlock → k50.R 50 w3 base (fun k => oki k ∨ (ok k ∧ w2.heap.size ≤ k)) v2' ns' →
    (∀ j, w3.frozen? ⟨g, j, none⟩ = false) ∧ (∃ u, w3.cell? ⟨g, x.toNat * 6 + 2, none⟩ = some u) ∧ (∃ u, (w3.setCell ⟨g, x.toNat * 6 + 2, none⟩ v2').cell? ⟨g, x.toNat * 6 + 5, none⟩ = some u) ∧ (∀ j, (w3.setCell ⟨g, x.toNat * 6 + 2, none⟩ v2').frozen? ⟨g, j, none⟩ = false) ∧
    ∀ now : Int, Kd.S k40 40 ((w3.setCell ⟨g, x.toNat * 6 + 2, none⟩ v2').setCell ⟨g, x.toNat * 6 + 5, none⟩ (.int .i64 now)) base ok (.slice (some ⟨g, 0, none⟩) l.length c) (l.set x.toNat { zah l x with f2 := ns', f5 := now }) := by
 obtain ⟨oki, cs, hcl, hM, hcc, hoki, hH⟩ := Kd.S_lend hS (⟨0, [], [], ⟨#[]⟩, 0, 0⟩ : S40) x h0 h1
 obtain ⟨g', cap', e', hbg, hgl, cells, hgb⟩ := Kd.S_form hS (by omega)
 injection e' with e1 _ _
 injection e1 with e1
 injection e1 with e1
 subst e1
 obtain ⟨v1, v2, rfl, hR1, hR2⟩ := zck hM
 have hc2 := hcc 2 v2 rfl
 refine ⟨oki, v2, hc2, hR2, hoki, (Kd.S_R hS).1 g rfl, hgl, hbg, fun w3 v2' ns' hg hR3 => ?_⟩
 have hne : some g ≠ v2.ownBlock := fun e => (hoki g (hR2.1 g e.symm)).2 rfl
 have hgb3 := zbe hgb hg hne
 have hH3 := Kd.H_grown (Kd.H_widen hH) hg (fun k hk => .inl (hR2.1 k hk))
 have hR13 : (Kd.int .u8).R 5 w3 base (fun k => oki k ∨ (ok k ∧ w2.heap.size ≤ k)) v1 (zah l x).f1 := Kd.zbj (Kd.R_over' hR1 (Kd.R_typed hR2) (by decide) hg) (fun k hk => .inl hk)
 have hseg1 := (Kd.H_seg hH3 h0 h1 (seg := [v2']) (j := 2) (by show 2 + 1 ≤ 6; omega) (fun q hq => by rw [List.mem_singleton.1 hq]; exact (Kd.R_val hR3).2)).1
 have hsz := hH3
 have hcell2 : ∃ u, w3.cell? ⟨g, x.toNat * 6 + 2, none⟩ = some u := ⟨v2, by rw [World.cell?_of_block (hg.block g hgl hne)]; exact hc2⟩
 have hcell5 : ∃ u, (w3.setCell ⟨g, x.toNat * 6 + 2, none⟩ v2').cell? ⟨g, x.toNat * 6 + 5, none⟩ = some u := by
  obtain ⟨rows, _, _, _, _, hc5, _⟩ := Kd.H_raw hseg1 h0 h1
  exact ⟨_, hc5 5 _ rfl⟩
 refine ⟨fun j => zaf hgb3 j, hcell2, hcell5, fun j => zaf (blk_set hgb3 _ _) j, fun now => ?_⟩
 have hseg2 := (Kd.H_seg hseg1 h0 h1 (seg := [.int .i64 now]) (j := 5) (by show 5 + 1 ≤ 6; omega) (fun q hq => by rw [List.mem_singleton.1 hq]; rfl)).1
 have hb1 := blk_set hgb3 (x.toNat * 6 + 2) v2'
 refine Kd.H_back hseg2 (x' := { zah l x with f2 := ns', f5 := now }) (okp := fun k => oki k ∨ (ok k ∧ w2.heap.size ≤ k)) ?_ (fun _ hk => hk)
 refine zcg _ _ _ { zah l x with f2 := ns', f5 := now } ?_ ?_
 ·exact Kd.R_set (Kd.R_set hR13 hgb3 (by decide) _ _) hb1 (by decide) _ _
 ·exact Kd.R_set (Kd.R_set hR3 hgb3 (by decide) _ _) hb1 (by decide) _ _
def treeW (w : World) (A : Option Addr) (n c : Nat) : World := (w.alloc (.cells #[.slice A n c] 24)).alloc (.cells #[.slice none 0 0] 24)
theorem treeW_below (w : World) (A : Option Addr) (n c : Nat) : Below w.heap.size w (treeW w A n c) := zad (zad (Below.refl _ _) _) _
theorem treeW_blk {w w' : World} {A : Option Addr} {n c : Nat} (h : Below (treeW w A n c).heap.size (treeW w A n c) w') : w'.heap[w.heap.size]? = some (.cells #[.slice A n c] 24 (0, 0)) ∧ w'.heap[w.heap.size + 1]? = some (.cells #[.slice none 0 0] 24 (0, 0)) := by
 have hs : (w.alloc (.cells #[.slice A n c] 24)).heap.size = w.heap.size + 1 := World.size_alloc _ _
 have h2 : (treeW w A n c).heap.size = w.heap.size + 1 + 1 := by show ((w.alloc _).alloc _).heap.size = _; rw [World.size_alloc, hs]
 constructor
 ·exact (h.block w.heap.size (by omega)).trans (zai (zbb w _) _)
 ·refine (h.block (w.heap.size + 1) (by omega)).trans ?_
  rw [← hs]; exact zbb _ _
theorem zbU {w w' : World} {A : Option Addr} {n c : Nat} (h : Below (treeW w A n c).heap.size (treeW w A n c) w') : w'.cell? ⟨w.heap.size, 0, none⟩ = some (.slice A n c) := (zac (treeW_blk h).1 0).trans rfl
theorem one6 (a b c : Int) (t : ByteArray) : ∀ q ∈ [Value.int .i64 a, .slice none 0 0, .slice none 0 0, .string t, .int .i64 b, .int .i64 c], q.oneCell' = true := by
 intro q hq; simp only [List.mem_cons, List.not_mem_nil, or_false] at hq; rcases hq with rfl | rfl | rfl | rfl | rfl | rfl <;> rfl
theorem boxed {w W : World} {x v v12 : Value} {l : List S40} {ok : Nat → Prop} (h6 : W.heap[w.heap.size]? = some (.cells #[x] 24 (0, 0))) (h12 : W.heap[w.heap.size + 1]? = some (.cells #[v12] 24 (0, 0))) (HB : Below w.heap.size w W) (HS : Kd.S k40 40 W w.heap.size ok v l) :
  (W.setCell ⟨w.heap.size, 0, none⟩ v).heap[w.heap.size]? = some (.cells #[v] 24 (0, 0)) ∧ (W.setCell ⟨w.heap.size, 0, none⟩ v).heap[w.heap.size + 1]? = some (.cells #[v12] 24 (0, 0)) ∧ Kd.S k40 40 (W.setCell ⟨w.heap.size, 0, none⟩ v) w.heap.size ok v l ∧ Below w.heap.size w (W.setCell ⟨w.heap.size, 0, none⟩ v) :=
 ⟨zaP h6 0 v rfl, zaD h12 (p := ⟨w.heap.size, 0, none⟩) (by simp) v, Kd.S_set HS h6 (by decide) 0 _, HB.setCell (p := ⟨w.heap.size, 0, none⟩) (Nat.le_refl _) _⟩
theorem links_anew {W : World} {base g c : Nat} {ok : Nat → Prop} {l : List S40} (hS : Kd.S k40 40 W base ok (.slice (some ⟨g, 0, none⟩) l.length c) l) (x : Int) (h0 : 0 ≤ x) (h1 : x < (l.length : Int)) :
  W.cell? ⟨g, x.toNat * 6 + 4, none⟩ = some (.int .i64 (zah l x).f4) ∧ W.frozen? ⟨g, x.toNat * 6 + 4, none⟩ = false ∧ ok g ∧ base ≤ g ∧ g < W.heap.size ∧
   ∀ m : Int, Kd.S k40 40 (W.setCell ⟨g, x.toNat * 6 + 4, none⟩ (.int .i64 m)) base ok (.slice (some ⟨g, 0, none⟩) l.length c) (l.set x.toNat { zah l x with f4 := m }) := by
 obtain ⟨oki, cs, hcl, hM, hcc, hoki, hH⟩ := Kd.S_lend hS z40 x h0 h1
 obtain ⟨g', cap', e', hbg, hgl, cells, hgb⟩ := Kd.S_form hS (by omega)
 injection e' with e1 _ _
 injection e1 with e1
 injection e1 with e1
 subst e1
 obtain ⟨v1, v2, rfl, hR1, hR2⟩ := zck hM
 refine ⟨hcc 4 _ rfl, zaf hgb _, (Kd.S_R hS).1 g rfl, hbg, hgl, fun m => ?_⟩
 have hseg := (Kd.H_seg hH h0 h1 (seg := [.int .i64 m]) (j := 4) (by show 4 + 1 ≤ 6; omega) (fun q hq => by rw [List.mem_singleton.1 hq]; rfl)).1
 refine Kd.H_back hseg (x' := { zah l x with f4 := m }) (okp := oki) ?_ (fun _ hk => hk)
 exact zcg _ _ _ { zah l x with f4 := m } (Kd.R_set hR1 hgb (by decide) _ _) (Kd.R_set hR2 hgb (by decide) _ _)
theorem data_anew {w2 : World} {base g c : Nat} {ok : Nat → Prop} {l : List S40} (hS : Kd.S k40 40 w2 base ok (.slice (some ⟨g, 0, none⟩) l.length c) l) (x : Int) (h0 : 0 ≤ x) (h1 : x < (l.length : Int)) (hbase : base ≤ w2.heap.size) (hfresh : ∀ k, w2.heap.size ≤ k → ok k) :
  ∃ (A : Option Addr) (m : Nat), w2.cell? ⟨g, x.toNat * 6 + 1, none⟩ = some (.slice A (zah l x).f1.length m) ∧ (zah l x).f1.length ≤ m ∧ Kd.C (Kd.int .u8) w2 A (zah l x).f1.length (zah l x).f1 ∧ ok g ∧ g < w2.heap.size ∧ base ≤ g ∧
   ∀ (w3 : World) (v1' : Value) (bs' : List Int), Below w2.heap.size w2 w3 → (Kd.int .u8).R 5 w3 w2.heap.size (fun _ => True) v1' bs' →
    (∀ j, w3.frozen? ⟨g, j, none⟩ = false) ∧ (∃ u, w3.cell? ⟨g, x.toNat * 6 + 1, none⟩ = some u) ∧ (∃ u, (w3.setCell ⟨g, x.toNat * 6 + 1, none⟩ v1').cell? ⟨g, x.toNat * 6 + 5, none⟩ = some u) ∧ (∀ j, (w3.setCell ⟨g, x.toNat * 6 + 1, none⟩ v1').frozen? ⟨g, j, none⟩ = false) ∧
    Kd.S k40 40 (w3.setCell ⟨g, x.toNat * 6 + 1, none⟩ v1') base ok (.slice (some ⟨g, 0, none⟩) l.length c) (l.set x.toNat { zah l x with f1 := bs' }) ∧
    ∀ now : Int, Kd.S k40 40 ((w3.setCell ⟨g, x.toNat * 6 + 1, none⟩ v1').setCell ⟨g, x.toNat * 6 + 5, none⟩ (.int .i64 now)) base ok (.slice (some ⟨g, 0, none⟩) l.length c) (l.set x.toNat { zah l x with f1 := bs', f5 := now }) := by
 obtain ⟨oki, cs, hcl, hM, hcc, hoki, hH⟩ := Kd.S_lend hS z40 x h0 h1
 obtain ⟨g', cap', e', hbg, hgl, cells, hgb⟩ := Kd.S_form hS (by omega)
 injection e' with e1 _ _
 injection e1 with e1
 injection e1 with e1
 subst e1
 obtain ⟨v1, v2, rfl, hR1, hR2⟩ := zck hM
 obtain ⟨A, m, rfl, hm, hC⟩ := Kd.R_reads hR1
 refine ⟨A, m, hcc 1 _ rfl, hm, hC, (Kd.S_R hS).1 g rfl, hgl, hbg, fun w3 v1' bs' hb hR3 => ?_⟩
 have hgb3 := zan hgb hb
 have hH3 := Kd.H_below (Kd.H_widen hH) hb
 have hR23 : k50.R 50 w3 base (fun k => oki k ∨ (ok k ∧ w2.heap.size ≤ k)) v2 (zah l x).f2 := Kd.zbj (Kd.zcj hR2 hb) (fun k hk => .inl hk)
 have hR13 : (Kd.int .u8).R 5 w3 base (fun k => oki k ∨ (ok k ∧ w2.heap.size ≤ k)) v1' bs' := Kd.zcw (Kd.zbj (Kd.zci hR3) (fun k hk => .inr ⟨hfresh k hk.2.1, hk.2.1⟩)) hbase
 have hseg1 := (Kd.H_seg hH3 h0 h1 (seg := [v1']) (j := 1) (by show 1 + 1 ≤ 6; omega) (fun q hq => by rw [List.mem_singleton.1 hq]; exact (Kd.R_val hR3).2)).1
 have hb1 := blk_set hgb3 (x.toNat * 6 + 1) v1'
 have hcell5 : ∃ u, (w3.setCell ⟨g, x.toNat * 6 + 1, none⟩ v1').cell? ⟨g, x.toNat * 6 + 5, none⟩ = some u := by
  obtain ⟨rows, _, _, _, _, hc5, _⟩ := Kd.H_raw hseg1 h0 h1
  exact ⟨_, hc5 5 _ rfl⟩
 refine ⟨fun j => zaf hgb3 j, ⟨_, (hb.cell hgl).trans (hcc 1 _ rfl)⟩, hcell5, fun j => zaf hb1 j, ?_, fun now => ?_⟩
 ·refine Kd.H_back hseg1 (x' := { zah l x with f1 := bs' }) (okp := fun k => oki k ∨ (ok k ∧ w2.heap.size ≤ k)) ?_ (fun _ hk => hk)
  exact zcg _ _ _ { zah l x with f1 := bs' } (Kd.R_set hR13 hgb3 (by decide) _ _) (Kd.R_set hR23 hgb3 (by decide) _ _)
 ·have hseg2 := (Kd.H_seg hseg1 h0 h1 (seg := [.int .i64 now]) (j := 5) (by show 5 + 1 ≤ 6; omega) (fun q hq => by rw [List.mem_singleton.1 hq]; rfl)).1
  refine Kd.H_back hseg2 (x' := { zah l x with f1 := bs', f5 := now }) (okp := fun k => oki k ∨ (ok k ∧ w2.heap.size ≤ k)) ?_ (fun _ hk => hk)
  exact zcg _ _ _ { zah l x with f1 := bs', f5 := now } (Kd.R_set (Kd.R_set hR13 hgb3 (by decide) _ _) hb1 (by decide) _ _) (Kd.R_set (Kd.R_set hR23 hgb3 (by decide) _ _) hb1 (by decide) _ _)
def addN (l : List S40) (dir : Int) (s : ByteArray) (node now : Int) : List S40 :=
 l.set dir.toNat { zah l dir with f2 := (zah l dir).f2.take (bs (zah l dir).f2 s) ++ ⟨s, node⟩ :: (zah l dir).f2.drop (bs (zah l dir).f2 s), f5 := now }
set_option maxHeartbeats 4000000 in
set_option maxRecDepth 100000 in
theorem tree_add.calls (W : World) (base g c : Nat) (ok : Nat → Prop) (l : List S40) (dir : Int) (s : ByteArray) (node now : Int) (hS : Kd.S k40 40 W base ok (.slice (some ⟨g, 0, none⟩) l.length c) l) (h0 : 0 ≤ dir) (h1 : dir < (l.length : Int)) (hfresh : ∀ k, W.heap.size ≤ k → ok k) (hbase : base ≤ W.heap.size) (hl : ((zah l dir).f2.length + 1) * 24 ≤ 140737488355328) (hbs : bs (zah l dir).f2 s ≤ (zah l dir).f2.length) :
  Calls Tryz.prog 72 #[.agg #[.slice (some ⟨g, 0, none⟩) l.length c], .int .i64 dir, .string s, .int .i64 node, .int .i64 now] W fun e w' => e = .returned (.tuple #[]) ∧ Kd.S k40 40 w' base ok (.slice (some ⟨g, 0, none⟩) l.length c) (addN l dir s node now) ∧ Below base W w' ∧ (∀ k, k < W.heap.size → ¬ ok k → w'.heap[k]? = W.heap[k]?) := by
 have hut := Tryz.underlying24
 have hun := Tryz.underlying40
 have hum := Tryz.underlying50
 obtain ⟨_, hlc, hC⟩ := Kd.zbx hS
 have hpl : zbk.f l dir s = some ((bs (zah l dir).f2 s : Int), bsAt (zah l dir).f2 s) := by
  unfold zbk.f
  rw [if_pos h0, if_pos h1, if_pos (by omega)]
 have HS := zaa.mk hS
 have HCC := zaa.mk hC
 have HPL := zaa.mk hpl
 have HFR := zaa.mk hfresh
 have HLC := zaa.mk hlc
 have p0 := eq_true h0
 have p1 := eq_true h1
 clear hS hC hpl hfresh hlc
 go_enter Tryz.func72, Tryz.ntmps72
 go_wp2_with (first | (go_at_call 98; refine (zbk.calls (some ⟨g, 0, none⟩) c l dir s _ _ _ (Kd.C_below HCC.out (zad (Below.refl _ _) _)) HLC.out HPL.out).mono ?_; rintro e w2 ⟨rfl, hb⟩; have HB := zaa.mk hb; have hct := (zac (zan (zbb W (.cells #[.slice (some ⟨g, 0, none⟩) l.length c] 24)) hb) 0).trans rfl; have HB2 := zaa.mk ((zam (zad (Below.refl W.heap.size W) _) hb).mono hbase); have hb2 := Nat.le_trans hbase HB2.out.size; have HO2 := zaa.mk (fun k (hk : k < W.heap.size) => (zam (zad (Below.refl W.heap.size W) _) hb).block k hk); have hsz2 := (zam (zad (Below.refl W.heap.size W) _) hb).size; obtain ⟨oki, v2, hc2, hR2, hoki, hokg, hgl, hbg, HK⟩ := named_anew (Kd.za4 HS.out (zam (zad (Below.refl _ _) _) hb)) dir h0 h1; have HR2 := zaa.mk hR2; have HOK := zaa.mk hoki; have HOG := zaa.mk hokg; clear hokg; have HKK := zaa.mk HK; have HFR2 := zaa.mk (fun k (hk : w2.heap.size ≤ k) => HFR.out k (Nat.le_trans (zam (zad (Below.refl W.heap.size W) _) hb).size hk)); clear hb hR2 HK hoki) | (go_at_call 99; refine (zaA.calls w2 base (fun k => oki k ∨ (ok k ∧ w2.heap.size ≤ k)) v2 _ ⟨s, node⟩ (bs (zah l dir).f2 s) hbs (Kd.zbj HR2.out (fun _ hk => .inl hk)) (fun k hk => .inr ⟨HFR2.out k hk, hk⟩) hb2 hl).mono ?_; rintro e w3 ⟨v3, rfl, hR3, hg3, hat⟩; obtain ⟨A3, m3, c3, rfl⟩ := slice_any hR3; obtain ⟨hf, ⟨u2, hu2⟩, ⟨u5, hu5⟩, hf5, HFin⟩ := HKK.out w3 _ _ hg3 hR3; have HF := zaa.mk HFin; have HB3 := zaa.mk (HB2.out.grown hg3 hb2 (Kd.R_base HR2.out)); have HO3 := zaa.mk (fun k (hk : k < W.heap.size) (hn : ¬ ok k) => (hg3.block k (Nat.lt_of_lt_of_le hk hsz2) (fun e => hn (HOK.out k (HR2.out.1 k e.symm)).1)).trans (HO2.out k hk)); clear hR3 hg3 hat HFin))
 go_end0
 exact ⟨rfl, HF.out now, (HB3.out.setCell hbg _).setCell hbg _, fun k hk hn => ((Below.heap_setCell _ _ _ k (fun e => hn (e ▸ HOG.out))).trans (Below.heap_setCell _ _ _ k (fun e => hn (e ▸ HOG.out)))).trans (HO3.out k hk hn)⟩
end Go.Proofs.YtjghephnjkffcaaGreat.PAll
