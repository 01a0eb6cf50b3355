/- Parts of one proof, merged by a program of this repo: walks over the given program and plain facts. -/
import Derived.Test.YtjghephnjkffcaaMTreeWhole4
import Derived.Test.YtjghephnjkffcaaMTreeWhole10
import Derived.Test.YtjghephnjkffcaaMTreeWhole2
import Derived.Test.YtjghephnjkffcaaMTreeWhole9
import Derived.Test.YtjghephnjkffcaaMTreeWhole8
import Derived.Test.YtjghephnjkffcaaMTreeWhole5
import Derived.Deep.RegionHeld3
import Derived.Test.YtjghephnjkffcaaMTreeWhole6
import Derived.Shelf.Spec.SlicesInsertGrow
namespace Go.Proofs.Ytjghephnjkffcaa.PCk
open Go.RowKit Go.Proofs.YtjghephnjkffcaaW.PrintWords Go.Proofs.YtjghephnjkffcaaW.PrintLast Go.Proofs.YtjghephnjkffcaaW.PrintMore
attribute [local go_sem] zbV zbT zci zch zbG zbF zbU zbS
set_option linter.unusedVariables false
set_option linter.unusedSimpArgs false
def trimL : Nat → List S45 → List S45
 | 0, l => l
 | k + 1, l => if 1 < l.length ∧ (zae l ((l.length : Int) - 1)).f0 = 0 then trimL k (l.take (l.length - 1)) else l
set_option maxHeartbeats 4000000 in
set_option maxRecDepth 100000 in
theorem tree_Trim.calls (w : World) (base g c : Nat) (ok : Nat → Prop) (l : List S45) (hS : Kd.S k45 45 w base ok (.slice (some ⟨g, 0, none⟩) l.length c) l) (hm : l.length ≤ 1000000) :
  Calls Try.prog 43 #[.agg #[.slice (some ⟨g, 0, none⟩) l.length c]] w fun e w' => e = .returned (.agg #[.slice (some ⟨g, 0, none⟩) (trimL l.length l).length c]) ∧ Kd.S k45 45 w' base ok (.slice (some ⟨g, 0, none⟩) (trimL l.length l).length c) (trimL l.length l) ∧ Below w.heap.size w w' := by
 have hut := Try.underlying24
 have hun := Try.underlying45
 have hsl := Try.underlying22
 have HS := zaa.mk hS
 have HB0 := zaa.mk (zb5 w (some ⟨g, 0, none⟩) l.length c)
 have HK0 := zaa.mk (zbe (Below.refl (zbp w (some ⟨g, 0, none⟩) l.length c).heap.size (zbp w (some ⟨g, 0, none⟩) l.length c)))
 have HSW := zaa.mk (Kd.zbm hS (zb5 w (some ⟨g, 0, none⟩) l.length c))
 have hlc := (Kd.za5 hS).2.1
 clear hS
 go_enter Try.func43, Try.ntmps43
 go_wp2
 go_loopw [3] (fun v3 w' => ∃ m : List S45, v3 = .int .i64 m.length ∧ m.length ≤ l.length ∧ zaa (trimL m.length m = trimL l.length l) ∧ zaa (Kd.S k45 45 w' base ok (.slice (some ⟨g, 0, none⟩) m.length c) m) ∧ zaa (w'.heap[w.heap.size]? = some (.cells #[.slice (some ⟨g, 0, none⟩) m.length c] 24 (0, 0))) ∧ zaa (w'.heap[w.heap.size + 1]? = some (.cells #[.slice none 0 0] 24 (0, 0))) ∧ zaa (Below w.heap.size w w')) (fun v3 _ => (intOf v3).toNat)
 case atStart => exact ⟨l, rfl, Nat.le_refl _, ⟨rfl⟩, HSW, ⟨HK0.out.1⟩, ⟨HK0.out.2⟩, HB0⟩
 case round =>
  clear HSW HK0 HB0 HS
  obtain ⟨m, rfl, hml, HT, HS, HK6, HK12, HB⟩ := hrel
  have hct := (zah HK6.out 0).trans rfl
  have hf6 := zaf HK6.out 0
  have hct12 := (zah HK12.out 0).trans rfl
  have hf12 := zaf HK12.out 0
  have hmax : m.length ≤ 9223372036854775807 := by omega
  obtain ⟨_, hmc, hC⟩ := Kd.za5 HS.out
  have HCC := zaa.mk hC
  clear hC
  by_cases h1 : 1 < m.length
  ·have n1 : decide ((1 : Int) < (m.length : Int)) = true := decide_eq_true (by omega)
   have n1b : decide (1 < m.length) = true := decide_eq_true h1
   obtain ⟨ad, B1, d1, B2, d2, e1, hx0, hx1, hx2, hx3, hx4, hx5, _, _, _, _⟩ := zbn HCC.out ((m.length : Int) - 1) (by omega) (by omega)
   cases e1
   rw [show ((m.length : Int) - 1).toNat = m.length - 1 by omega, Addr.add_lit, Nat.zero_add] at hx0
   clear hx1 hx2 hx3 hx4 hx5
   have hp1 : 1 ≤ m.length := by omega
   by_cases h2 : (zae m ((m.length : Int) - 1)).f0 = 0
   ·have n2 : ((zae m ((m.length : Int) - 1)).f0 == 0) = true := beq_iff_eq.mpr h2
    have hlen : (m.take (m.length - 1)).length = m.length - 1 := by simp
    have HT2 : zaa (trimL (m.take (m.length - 1)).length (m.take (m.length - 1)) = trimL l.length l) := ⟨by
     rw [← HT.out, hlen]
     obtain ⟨k, hk⟩ : ∃ k, m.length = k + 1 := ⟨m.length - 1, by omega⟩
     rw [hk, Nat.add_sub_cancel]
     conv => rhs; rw [trimL, if_pos ⟨h1, h2⟩, hk, Nat.add_sub_cancel]⟩
    have HS2 := zaa.mk (Kd.zbK (Kd.S_take HS.out (m := m.length - 1) (by omega)) HK6.out (by decide) 0 (.slice (some ⟨g, 0, none⟩) (m.length - 1) c))
    have HL := zaa.mk hlen
    clear hlen h2
    go_wp2
    go_roundw
    case rel => exact ⟨m.take (m.length - 1), by rw [HL.out]; congr 1; omega, by rw [HL.out]; omega, HT2, by rw [HL.out]; exact HS2, by rw [HL.out]; exact ⟨zaF HK6.out 0 _ rfl⟩, ⟨zaC HK12.out (p := ⟨w.heap.size, 0, none⟩) (by simp) _⟩, ⟨HB.out.setCell (p := ⟨w.heap.size, 0, none⟩) (Nat.le_refl _) _⟩⟩
    case measure => simp [intOf]; omega
   ·have n2 : ((zae m ((m.length : Int) - 1)).f0 == 0) = false := beq_eq_false_iff_ne.mpr h2
    have HT' : trimL l.length l = m := by
     rw [← HT.out]
     cases hk : m.length with
     | zero => rfl
     | succ k => rw [trimL, if_neg (by rw [hk]; exact fun h => h2 (by rw [hk]; exact h.2))]
    have HTT := zaa.mk HT'
    clear HT'
    go_wp2
    refine bodyPost_ret (results_cell_row rfl _ _ (w.heap.size + 1) 24 #[.slice (some ⟨g, 0, none⟩) m.length c] (0, 0) _ rfl (zaF HK12.out 0 _ rfl) Try.underlying24 rfl (by kernel_rfl)) rfl ?_
    rw [HTT.out]
    exact ⟨rfl, Kd.zbK HS.out HK12.out (by decide) 0 _, HB.out.setCell (p := ⟨w.heap.size + 1, 0, none⟩) (by show _ ≤ _ + 1; omega) _⟩
  ·have n1 : decide ((1 : Int) < (m.length : Int)) = false := decide_eq_false (by omega)
   have n1b : decide (1 < m.length) = false := decide_eq_false h1
   have HT' : trimL l.length l = m := by
    rw [← HT.out]
    cases hk : m.length with
    | zero => rfl
    | succ k => rw [trimL, if_neg (by rw [hk]; exact fun h => h1 (by rw [hk]; exact h.1))]
   have HTT := zaa.mk HT'
   clear HT'
   go_wp2
   refine bodyPost_ret (results_cell_row rfl _ _ (w.heap.size + 1) 24 #[.slice (some ⟨g, 0, none⟩) m.length c] (0, 0) _ rfl (zaF HK12.out 0 _ rfl) Try.underlying24 rfl (by kernel_rfl)) rfl ?_
   rw [HTT.out]
   exact ⟨rfl, Kd.zbK HS.out HK12.out (by decide) 0 _, HB.out.setCell (p := ⟨w.heap.size + 1, 0, none⟩) (by show _ ≤ _ + 1; omega) _⟩
def freeD (u : List S45) (n : Int) : Option (List S45 × Int) := if 0 ≤ n ∧ n < (u.length : Int) ∧ u.length ≤ 1000000 then some (trimL u.length (u.set n.toNat z45), 0) else none
def tree_Free.f (k : Nat) (l0_0 : List S45) (a1 : Int) : Option (List S45 × Int) :=
 (zbb.f k l0_0 [a1]).bind fun m => if m = true then (if 0 ≤ a1 ∧ a1 < (l0_0.length : Int) then (if a1 = 0 then zaD.f k l0_0 63 else (if 0 < (zae l0_0 a1).f4 then zaD.f k l0_0 63 else (zaJ.f k l0_0).bind fun u => freeD u a1)) else none) else zaD.f k l0_0 100
set_option maxHeartbeats 8000000 in
set_option maxRecDepth 100000 in
theorem tree_Free.calls (k : Nat) (A0_0 : Option Addr) (c0_0 : Nat) (l0_0 : List S45) (a1 : Int) (r1 : List S45) (r2 : Int) (w : World) (hr0_0 : Kd.C k45 w A0_0 l0_0.length l0_0) (hc0_0 : l0_0.length ≤ c0_0) (h : tree_Free.f k l0_0 a1 = some (r1, r2)) :
  Calls Try.prog 17 #[.agg #[.slice A0_0 l0_0.length c0_0], .int .i64 a1] w fun e w' => ∃ v0_ : Value, e = .returned (.tuple #[.agg #[v0_], .int .i64 r2]) ∧ Kd.S k45 45 w' w.heap.size (fun _ => True) v0_ r1 ∧ Below w.heap.size w w' := by
 obtain ⟨m, hm, h⟩ := Option.bind_eq_some_iff.mp h
 have HR := zaa.mk hr0_0
 have HC := zaa.mk hc0_0
 have HM := zaa.mk hm
 have hut := Try.underlying24
 have hun := Try.underlying45
 have hsi := Try.underlying88
 have HW := zaa.mk (zb5 w A0_0 l0_0.length c0_0)
 have HW0 := zaa.mk (Below.refl (zbp w A0_0 l0_0.length c0_0).heap.size (zbp w A0_0 l0_0.length c0_0))
 have HD := zaa.mk (Kd.zbL (R_of_blk (xs := [a1]) (k := .i64) (base := 0) (zbC (zbp w A0_0 l0_0.length c0_0) (.cells #[.int .i64 a1] 3)) (Nat.zero_le _) (by simp))).2.2
 have hWs : (zbp w A0_0 l0_0.length c0_0).heap.size = w.heap.size + 1 + 1 := by show ((w.alloc _).alloc _).heap.size = _; rw [World.size_alloc, World.size_alloc]
 rw [hWs] at HD
 clear hr0_0 hc0_0 hm hWs
 cases m with
 | false =>
  have hbad : zaD.f k l0_0 100 = some (r1, r2) := h
  clear h
  go_enter Try.func17, Try.ntmps17
  have HBAD := zaa.mk hbad
  clear hbad
  go_wp2_with (first | (go_at_call 40; refine (zbb.calls k _ c0_0 l0_0 (some ⟨w.heap.size + 1 + 1, 0, none⟩) 1 [a1] _ _ (Kd.C_below HR.out (by repeat (first | exact HW.out | exact Below.refl _ _ | apply zac | apply zab | apply zad | apply zaH))) HC.out HD.out (by simp) HM.out).mono ?_; rintro e' w1 ⟨rfl, hb⟩; have HB := zaa.mk (zai (zac HW0.out _) hb); have hct := zaZ HB.out; (try (have hx4 := ((zai HW.out HB.out).cell (World.block_lt_of_cell? _ _ HX4.out)).trans HX4.out)); clear hb) | (go_at_call 41; refine (zaD.calls k _ c0_0 l0_0 100 r1 r2 w1 (Kd.C_below HR.out (zai HW.out HB.out)) HC.out HBAD.out).mono ?_; rintro e' w1 ⟨v, rfl, hS, hb⟩; obtain ⟨vA, vc, rfl⟩ := Kd.zbc hS; have HS1 := zaa.mk hS; have HB1 := zaa.mk (zai HB.out hb); have HK := zaa.mk (zbe HB1.out); have hct1 := (zah HK.out.2 0).trans rfl; have hf1 := zaf HK.out.2 0; clear hS hb))
  refine bodyPost_ret (za6 rfl _ _ (w.heap.size + 1) 24 #[.slice vA r1.length vc] (0, 0) _ rfl (zaF HK.out.2 0 _ rfl) Try.underlying24 rfl (by kernel_rfl)) rfl ?_
  exact ⟨_, rfl, Kd.zbK (Kd.za8 HS1.out (zai HW.out HB.out).size) HK.out.2 (by decide) 0 _, (zai HW.out HB1.out).setCell (p := ⟨w.heap.size + 1, 0, none⟩) (by show _ ≤ _ + 1; omega) _⟩
 | true =>
  rw [if_pos rfl] at h
  split at h
  ·rename_i hr
   obtain ⟨ad, B1, d1, B2, d2, rfl, hx0, hx1, hx2, hx3, hx4, hx5, _, _, _, _⟩ := zbn HR.out a1 hr.1 hr.2
   have HX4 := zaa.mk hx4
   have p0 := eq_true hr.1
   have p1 := eq_true hr.2
   clear hx0 hx1 hx2 hx3 hx4 hx5 hr
   by_cases z1 : a1 = 0
   ·have hbad := h
    rw [if_pos z1] at hbad
    have Z1 : (a1 == 0) = true := beq_iff_eq.mpr z1
    clear h z1
    go_enter Try.func17, Try.ntmps17
    have HBAD := zaa.mk hbad
    clear hbad
    go_wp2_with (first | (go_at_call 40; refine (zbb.calls k _ c0_0 l0_0 (some ⟨w.heap.size + 1 + 1, 0, none⟩) 1 [a1] _ _ (Kd.C_below HR.out (by repeat (first | exact HW.out | exact Below.refl _ _ | apply zac | apply zab | apply zad | apply zaH))) HC.out HD.out (by simp) HM.out).mono ?_; rintro e' w1 ⟨rfl, hb⟩; have HB := zaa.mk (zai (zac HW0.out _) hb); have hct := zaZ HB.out; (try (have hx4 := ((zai HW.out HB.out).cell (World.block_lt_of_cell? _ _ HX4.out)).trans HX4.out)); clear hb) | (go_at_call 41; refine (zaD.calls k _ c0_0 l0_0 63 r1 r2 w1 (Kd.C_below HR.out (zai HW.out HB.out)) HC.out HBAD.out).mono ?_; rintro e' w1 ⟨v, rfl, hS, hb⟩; obtain ⟨vA, vc, rfl⟩ := Kd.zbc hS; have HS1 := zaa.mk hS; have HB1 := zaa.mk (zai HB.out hb); have HK := zaa.mk (zbe HB1.out); have hct1 := (zah HK.out.2 0).trans rfl; have hf1 := zaf HK.out.2 0; clear hS hb))
    refine bodyPost_ret (za6 rfl _ _ (w.heap.size + 1) 24 #[.slice vA r1.length vc] (0, 0) _ rfl (zaF HK.out.2 0 _ rfl) Try.underlying24 rfl (by kernel_rfl)) rfl ?_
    exact ⟨_, rfl, Kd.zbK (Kd.za8 HS1.out (zai HW.out HB.out).size) HK.out.2 (by decide) 0 _, (zai HW.out HB1.out).setCell (p := ⟨w.heap.size + 1, 0, none⟩) (by show _ ≤ _ + 1; omega) _⟩
   ·rw [if_neg z1] at h
    have Z1 : (a1 == 0) = false := beq_eq_false_iff_ne.mpr z1
    clear z1
    by_cases z2 : 0 < (zae l0_0 a1).f4
    ·have hbad := h
     rw [if_pos z2] at hbad
     have Z2 : decide (0 < (zae l0_0 a1).f4) = true := decide_eq_true z2
     clear h z2
     go_enter Try.func17, Try.ntmps17
     have HBAD := zaa.mk hbad
     clear hbad
     go_wp2_with (first | (go_at_call 40; refine (zbb.calls k _ c0_0 l0_0 (some ⟨w.heap.size + 1 + 1, 0, none⟩) 1 [a1] _ _ (Kd.C_below HR.out (by repeat (first | exact HW.out | exact Below.refl _ _ | apply zac | apply zab | apply zad | apply zaH))) HC.out HD.out (by simp) HM.out).mono ?_; rintro e' w1 ⟨rfl, hb⟩; have HB := zaa.mk (zai (zac HW0.out _) hb); have hct := zaZ HB.out; (try (have hx4 := ((zai HW.out HB.out).cell (World.block_lt_of_cell? _ _ HX4.out)).trans HX4.out)); clear hb) | (go_at_call 41; refine (zaD.calls k _ c0_0 l0_0 63 r1 r2 w1 (Kd.C_below HR.out (zai HW.out HB.out)) HC.out HBAD.out).mono ?_; rintro e' w1 ⟨v, rfl, hS, hb⟩; obtain ⟨vA, vc, rfl⟩ := Kd.zbc hS; have HS1 := zaa.mk hS; have HB1 := zaa.mk (zai HB.out hb); have HK := zaa.mk (zbe HB1.out); have hct1 := (zah HK.out.2 0).trans rfl; have hf1 := zaf HK.out.2 0; clear hS hb))
     refine bodyPost_ret (za6 rfl _ _ (w.heap.size + 1) 24 #[.slice vA r1.length vc] (0, 0) _ rfl (zaF HK.out.2 0 _ rfl) Try.underlying24 rfl (by kernel_rfl)) rfl ?_
     exact ⟨_, rfl, Kd.zbK (Kd.za8 HS1.out (zai HW.out HB.out).size) HK.out.2 (by decide) 0 _, (zai HW.out HB1.out).setCell (p := ⟨w.heap.size + 1, 0, none⟩) (by show _ ≤ _ + 1; omega) _⟩
    ·rw [if_neg z2] at h
     have Z2 : decide (0 < (zae l0_0 a1).f4) = false := decide_eq_false z2
     clear z2
     obtain ⟨u, hu, hq⟩ := Option.bind_eq_some_iff.mp h
     unfold freeD at hq
     split at hq
     ·rename_i hg1
      have HADD := zaa.mk (Option.some.inj hq)
      have HU := zaa.mk hu
      have HG1 := zaa.mk hg1
      have p2 := eq_true hg1.2.1
      have hpos : 0 < u.length := by omega
      have hn0 := hg1.1
      have hn1 := hg1.2.1
      clear h hu hq hg1
      go_enter Try.func17, Try.ntmps17
      go_wp2_with (first | (go_at_call 40; refine (zbb.calls k _ c0_0 l0_0 (some ⟨w.heap.size + 1 + 1, 0, none⟩) 1 [a1] _ _ (Kd.C_below HR.out (by repeat (first | exact HW.out | exact Below.refl _ _ | apply zac | apply zab | apply zad | apply zaH))) HC.out HD.out (by simp) HM.out).mono ?_; rintro e' w1 ⟨rfl, hb⟩; have HB := zaa.mk (zai (zac HW0.out _) hb); have hct := zaZ HB.out; have hx4 := ((zai HW.out HB.out).cell (World.block_lt_of_cell? _ _ HX4.out)).trans HX4.out; have HSZ : zaa (w.heap.size + 2 ≤ w1.heap.size) := ⟨by have := HB.out.size; have h2 : (zbp w (some ad) l0_0.length c0_0).heap.size = w.heap.size + 1 + 1 := (by show ((w.alloc _).alloc _).heap.size = _; rw [World.size_alloc, World.size_alloc]); omega⟩; clear hb) | (go_at_call 42; refine (zaJ.calls k _ c0_0 l0_0 u _ (Kd.C_below HR.out (zai HW.out HB.out)) HC.out HU.out).mono ?_; rintro e' w2 ⟨v, rfl, hS, hb⟩; obtain ⟨g, vc, rfl, hgN, hgl, _⟩ := Kd.S_form hS hpos; have HB1 := zai HB.out hb; have hK := zbe HB1; have hX := boxed hK.1 hK.2 (zai HW.out HB1) (Kd.za8 (Kd.zbw (ok' := (fun k => k ≠ w.heap.size ∧ k ≠ w.heap.size + 1)) (Kd.S_bound hS) (fun k hk => ⟨by have := HSZ.out; have := hk.2.1; omega, by have := HSZ.out; have := hk.2.1; omega⟩)) (zai HW.out HB.out).size); have hct1 := zaZ HB1; have hf1 := zaf hK.1 0; have HK6 := zaa.mk hX.1; have HK12 := zaa.mk hX.2.1; have HS1 := zaa.mk hX.2.2.1; have HB2 := zaa.mk hX.2.2.2; have hct2 := (zah HK6.out 0).trans rfl; have hf2 := zaf HK6.out 0; clear hS hb hX HB1 hK; obtain ⟨oki, cs, hcl, _, _, _, hH⟩ := Kd.S_lend HS1.out z45 a1 hn0 hn1; have HCL := zaa.mk hcl; have HH1 := zaa.mk hH; clear hcl hH) | (refine Kd.H_store k45 (w0 := w) w.heap.size rfl rfl 45 (.tmp 38) (.tmp 37) rfl 45 (o' := a1.toNat * 6) a1 0 u z45 (.agg #[.int .i64 0, .slice none 0 0, .slice none 0 0, .string ⟨#[]⟩, .int .i64 0, .int .i64 0]) [.int .i64 0, .slice none 0 0, .slice none 0 0, .string ⟨#[]⟩, .int .i64 0, .int .i64 0] cs (fun k => k ≠ w.heap.size ∧ k ≠ w.heap.size + 1) oki (fun _ => False) rfl rfl rfl rfl (by kernel_rfl) (one6 _ _ _ _) HH1.out hn0 hn1 (by show 0 + 6 ≤ 6; omega) (by rw [List.drop_eq_nil_of_le (by rw [HCL.out]; show 6 ≤ 0 + 6; omega)]; exact k45_mkM _ _ _ z45 (Kd.R_nil _ _ _ _ _) (Kd.R_nil _ _ _ _ _)) (fun _ hk => hk.elim) HB2.out ?_; intro w4 hS4 hb4 hg4; have HNE := Kd.S_ne HS1.out HK6.out (by decide); have HNE12 := Kd.S_ne HS1.out HK12.out (by decide); have HK6b := zaa.mk (zbr HK6.out hg4 HNE); have HK12b := zaa.mk (zbr HK12.out hg4 HNE12); have HS4 := zaa.mk hS4; have HB4 := zaa.mk hb4; have hct4 := (zah HK6b.out 0).trans rfl; clear hS4 hb4 hg4 HNE HNE12) | (go_at_call 43; have htrim := tree_Trim.calls w4 w.heap.size g vc (fun k => k ≠ w.heap.size ∧ k ≠ w.heap.size + 1) (u.set a1.toNat z45) (by rw [List.length_set]; exact HS4.out) (by rw [List.length_set]; exact HG1.out.2.2); rw [List.length_set] at htrim; obtain ⟨t, ht⟩ : ∃ t, t = trimL u.length (u.set a1.toNat z45) := ⟨_, rfl⟩; rw [← ht] at htrim; refine htrim.mono ?_; rintro e' w5 ⟨rfl, hS5, hb5⟩; have HTE := zaa.mk ht.symm; have HK12c := zaa.mk (zaq HK12b.out hb5); have HS5 := zaa.mk hS5; have HB5 := zaa.mk (zai HB4.out hb5); have hct512 := (zah HK12c.out 0).trans rfl; have hf512 := zaf HK12c.out 0; clear htrim ht hS5 hb5))
      refine bodyPost_ret (za6 rfl _ _ (w.heap.size + 1) 24 #[.slice (some ⟨g, 0, none⟩) t.length vc] (0, 0) _ rfl (zaF HK12c.out 0 _ rfl) Try.underlying24 rfl (by kernel_rfl)) rfl ?_
      obtain ⟨rfl, rfl⟩ := Prod.mk.inj HADD.out
      refine ⟨_, rfl, ?_, HB5.out.setCell (p := ⟨w.heap.size + 1, 0, none⟩) (by show _ ≤ _ + 1; omega) _⟩
      rw [HTE.out]
      exact Kd.zbw (Kd.zbK HS5.out HK12c.out (by decide) 0 _) (fun _ _ => trivial)
     ·cases hq
  ·cases h
theorem zbu {W : World} {g : Nat} {a b : Value} {t : TypeId} (h : W.heap[g]? = some (.cells #[a, b] t (0, 0))) : W.cell? ⟨g, 0, none⟩ = some a ∧ W.cell? ⟨g, 1, none⟩ = some b := ⟨(zah h 0).trans rfl, (zah h 1).trans rfl⟩
theorem one_cell {W : World} {g : Nat} {a : Value} {t : TypeId} (h : W.heap[g]? = some (.cells #[a] t (0, 0))) : W.cell? ⟨g, 0, none⟩ = some a := (zah h 0).trans rfl
def zbX.f (a0 : Int) (a1 : Int) : Option (Int) := if (IntKind.u64.wrap (a1)) = 0 then (none) else (some (wrap64 (Int.tmod (IntKind.u64.wrap (a0)) (IntKind.u64.wrap (a1)))))
set_option maxHeartbeats 8000000 in
set_option maxRecDepth 100000 in
theorem zbX.calls (a0 : Int) (a1 : Int) (r : Int) (w : World) (h : zbX.f a0 a1 = some r) :
  Calls Try.prog 21 #[.int .i64 a0, .int .i64 a1] w fun e w' => e = .returned (.int .i64 r) ∧ zaK w w' := by
 have H : (if (IntKind.u64.wrap (a1)) = 0 then (none) else (some (wrap64 (Int.tmod (IntKind.u64.wrap (a0)) (IntKind.u64.wrap (a1)))))) = some r := h
 clear h
 by_cases c3 : (IntKind.u64.wrap (a1)) = 0
 ·rw [if_pos c3] at H
  exact absurd H (by simp)
 ·rw [if_neg c3] at H
  have c3b0 : ((IntKind.u64.wrap (a1)) == 0) = false := beq_eq_false_iff_ne.mpr c3
  have c3b1 : ((IntKind.u64.wrap (a1)) != 0) = true := bne_iff_ne.mpr c3
  obtain rfl := Option.some.inj H
  go_enter Try.func21, Try.ntmps21
  go_wp2
  go_ret
  exact ⟨by first | rfl | (simp; done) | (simp [*]; done), by repeat (first | exact zaK.refl _ | apply zaK.step)⟩
theorem own_l0 (l : List S45) (hm : l.length < 1599289640401) (hf : ∀ x ∈ l, FitsN x) : ∀ (d i : Nat), i + d = l.length → Ev (fun k => zaJ.l0 k l (l.length : Int) (i : Int) (l.take i)) l
 | 0, i, h => Ev.step (f := fun _ => some l) (fun k => by rw [zaJ.l0, if_neg (by omega), List.take_of_length_le (by omega)]) (Ev.now l)
 | d + 1, i, h => by
  have hi : i < l.length := by omega
  have hx : FitsN (zae l (i : Int)) := by rw [zb0 l i hi]; exact hf _ (List.getElem_mem _)
  refine Ev.step (fun k => ?_) (own_l0 l hm hf d (i + 1) (by omega))
  rw [zaJ.l0, if_pos (by omega), if_pos (by omega), if_pos (by omega), if_pos (by have := hx.1; simpa using this), if_pos (by have := hx.2; simpa using this), if_pos (by rw [List.length_take]; omega), up64 (by omega), zb0 l i hi]
  show zaJ.l0 k l _ _ (l.take i ++ [l[i]]) = _
  rw [take_next l i hi]
theorem own_ev (l : List S45) (hm : l.length < 1599289640401) (hf : ∀ x ∈ l, FitsN x) : Ev (fun k => zaJ.f k l) l := own_l0 l hm hf l.length 0 (by omega)
theorem mayN_ev {l : List S45} {m : Bool} (h : Ev (fun k => zaG.f k l) m) (ns : List Int) : Ev (fun k => zbb.f k l ns) (m && ns.all fun n => hasB l n) := by
 unfold zbb.f
 refine Ev.bind (f := fun _ t => if t = true then some (ns.all fun n => hasB l n) else some false) h ?_
 cases m with
 | true => exact Ev.congr (fun _ => if_pos rfl) (by simpa using Ev.now _)
 | false => exact Ev.congr (fun _ => if_neg (by simp)) (Ev.now _)
theorem bad_ev {l : List S45} (hl : l.length < 1599289640401) (hf : ∀ x ∈ l, FitsN x) (e : Int) (h : e = 100 → Ev (fun k => zaG.f k l) true) : Ev (fun k => zaD.f k l e) (l, e) := by
 have ho := own_ev l hl hf
 unfold zaD.f
 by_cases h1 : e = 100
 ·refine Ev.congr (fun k => if_pos h1) (Ev.bind (f := fun k t => if t = true then ((zaJ.f k l).bind fun t => some (t, e)) else some ([], e)) (h h1) (Ev.congr (fun k => if_pos rfl) ?_))
  exact Ev.bind (f := fun _ t => some (t, e)) ho (Ev.now _)
 ·exact Ev.congr (fun k => if_neg h1) (Ev.bind (f := fun _ t => some (t, e)) ho (Ev.now _))
theorem hasB_nat (l : List S45) (n : Nat) (h : n < l.length) : hasB l (n : Int) = ((zae l (n : Int)).f0 != 0) := by
 unfold hasB; rw [decide_eq_true (show 0 ≤ (n : Int) by omega), decide_eq_true (show (n : Int) < (l.length : Int) by omega)]; simp
theorem headB_parts {l : List S45} (h : Ev (fun k => zaG.f k l) true) : zbO l = true := by
 obtain ⟨K, hK⟩ := h
 have h1 : zaG.f K l = some true := hK K (Nat.le_refl _)
 unfold zaG.f at h1
 by_cases hh : zbO l = true
 ·exact hh
 ·rw [if_neg hh] at h1; cases h1
structure SimN (x y : S45) : Prop where
 k : x.f0 = y.f0
 n : x.f2 = y.f2
 l : x.f4 = y.f4
structure Sim (l l' : List S45) : Prop where
 len : l.length = l'.length
 at_ : ∀ i : Int, SimN (zae l i) (zae l' i)
theorem Sim.symm {l l' : List S45} (h : Sim l l') : Sim l' l := ⟨h.len.symm, fun i => ⟨(h.at_ i).k.symm, (h.at_ i).n.symm, (h.at_ i).l.symm⟩⟩
theorem Sim.reach {l l' : List S45} (h : Sim l l') {i : Nat} (hr : Reach l i) : Reach l' i := by
 induction hr with
 | root => exact .root
 | step _ hn hx hd ih => exact .step ih (by rw [← h.len]; exact hn) (by rw [← (h.at_ _).n]; exact hx) (by rw [← (h.at_ _).k]; exact hd)
theorem Sim.bumps_ {l l' : List S45} (h : Sim l l') : ∀ (d i : Nat) (c : List Int), bumps l d i c = bumps l' d i c
 | 0, _, _ => rfl
 | d + 1, i, c => by show bumps l d (i + 1) _ = bumps l' d (i + 1) _; rw [(h.at_ _).n]; exact Sim.bumps_ h d (i + 1) _
theorem Sim.nameIn {l l' : List S45} (h : Sim l l') {x : S66} (hx : zbN l x) : zbN l' x := ⟨hx.1, by rw [← h.len]; exact hx.2.1, by rw [← (h.at_ _).k]; exact hx.2.2⟩
theorem Sim.head {l l' : List S45} (h : Sim l l') : zbO l = zbO l' := by
 unfold zbO; rw [h.len, (h.at_ _).k, (h.at_ _).k, (h.at_ _).l]
theorem nodes_iff (l : List S45) (hf : Fits l) : nodesB l l.length = true ↔ ∀ j, j < l.length → zb9 (zae l (j : Int)) ∧ ∀ x ∈ (zae l (j : Int)).f2, zbN l x := by
 unfold nodesB
 rw [List.all_eq_true]
 constructor
 ·intro h j hj
  have h1 := (tree_node_ok l _ (fits_at hf j hj).1).1 (h j (List.mem_range.2 hj))
  refine ⟨h1.1, ?_⟩
  by_cases hk : (zae l (j : Int)).f0 = 2
  ·exact names_mem.2 (h1.2.2 hk)
  ·have : (zae l (j : Int)).f2 = [] := by
    rcases h1.1 with h | h | h | h
    ·rw [h.2]; rfl
    ·exact h.2.2.2.1
    ·exact absurd h.1 hk
    ·exact h.2.2.2.2.2.2
   rw [this]; simp
 ·intro h j hj
  have hj := List.mem_range.1 hj
  exact (tree_node_ok l _ (fits_at hf j hj).1).2 ⟨(h j hj).1, fun _ => trivial, fun _ => names_mem.1 (h j hj).2⟩
theorem may_last (l : List S45) (hf : Fits l) (hh : zbO l = true) (hA : ∀ j, j < l.length → zb9 (zae l (j : Int)) ∧ ∀ x ∈ (zae l (j : Int)).f2, zbN l x) :
  ∃ R, (∀ i, on R i = true ↔ Reach l i) ∧ Ev (fun k => zaG.f k l) (lastB l (bumps l l.length 0 (List.replicate l.length 0)) R l.length) := by
 obtain ⟨h0, hl, hk0, hl0⟩ := head_parts hh
 have hr : InRange l := fun n hn x hx => by have := (hA n hn).2 x hx; exact ⟨by have := this.1; omega, this.2.1⟩
 obtain ⟨R, hR, hRl, hRs⟩ := reached_tree l h0 hl hk0 hr
 have hRe : Ev (fun k => zaz.f k l) R := Ev.of (fun k => zaz.mono _ _) hR
 have hLe := links_ev l hl hf hr
 exact ⟨R, hRs, Ev.congr (fun k => by unfold zaG.f; rw [if_pos hh, if_pos ((nodes_iff l hf).2 hA)]) (Ev.bind (f := fun k L => (zaz.f k l).bind fun R => if L.length = l.length ∧ R.length = l.length then some (lastB l L R l.length) else none) hLe (Ev.bind (f := fun _ R => if (bumps l l.length 0 (List.replicate l.length 0)).length = l.length ∧ R.length = l.length then some (lastB l (bumps l l.length 0 (List.replicate l.length 0)) R l.length) else none) hRe (Ev.congr (fun _ => if_pos ⟨by rw [bumps_len, List.length_replicate], hRl⟩) (Ev.now _))))⟩
theorem may_nodes {l : List S45} (hf : Fits l) (h : Ev (fun k => zaG.f k l) true) : ∀ j, j < l.length → zb9 (zae l (j : Int)) ∧ ∀ x ∈ (zae l (j : Int)).f2, zbN l x := by
 refine (nodes_iff l hf).1 ?_
 have hh := headB_parts h
 obtain ⟨K, hK⟩ := h
 have h1 : zaG.f K l = some true := hK K (Nat.le_refl _)
 unfold zaG.f at h1
 rw [if_pos hh] at h1
 by_cases hn : nodesB l l.length = true
 ·exact hn
 ·rw [if_neg hn] at h1; cases h1
theorem may_sim {l l' : List S45} (hf : Fits l) (hf' : Fits l') (hs : Sim l l') (h : Ev (fun k => zaG.f k l) true) (hN : ∀ j, j < l.length → zb9 (zae l' (j : Int))) : Ev (fun k => zaG.f k l') true := by
 have hh := headB_parts h
 have hA := may_nodes hf h
 obtain ⟨R, hR, hE⟩ := may_last l hf hh hA
 have hA' : ∀ j, j < l'.length → zb9 (zae l' (j : Int)) ∧ ∀ x ∈ (zae l' (j : Int)).f2, zbN l' x := fun j hj => by
  rw [← hs.len] at hj
  exact ⟨hN j hj, fun x hx => hs.nameIn ((hA j hj).2 x (by rw [(hs.at_ _).n]; exact hx))⟩
 obtain ⟨R', hR', hE'⟩ := may_last l' hf' (hs.head ▸ hh) hA'
 have hlt : lastB l (bumps l l.length 0 (List.replicate l.length 0)) R l.length = true := Ev.one hE h
 have e : lastB l' (bumps l' l'.length 0 (List.replicate l'.length 0)) R' l'.length = true := by
  rw [← hlt, ← hs.len, ← hs.bumps_]
  unfold lastB
  congr 1
  funext i
  have hRR : rdOf false R' (i : Int) = rdOf false R (i : Int) := Bool.eq_iff_iff.2 ((hR' i).trans (Iff.trans ⟨hs.symm.reach, hs.reach⟩ (hR i).symm))
  unfold zbl
  rw [hRR, (hs.at_ _).k, (hs.at_ _).n, (hs.at_ _).l]
 rw [← e]; exact hE'
theorem may_data {l : List S45} (hf : Fits l) (h : Ev (fun k => zaG.f k l) true) (n : Nat) (hn : n < l.length) (hk : (zae l (n : Int)).f0 = 1) (d : List Int) (hd : d.length ≤ 16384) (t : Int) (ht : zct t) :
  Fits (l.set n { zae l (n : Int) with f1 := d, f5 := t }) ∧ Ev (fun k => zaG.f k (l.set n { zae l (n : Int) with f1 := d, f5 := t })) true := by
 have hx := fits_at hf n hn
 have hrd : ∀ j : Nat, zae (l.set n { zae l (n : Int) with f1 := d, f5 := t }) (j : Int) = if n = j then { zae l (n : Int) with f1 := d, f5 := t } else zae l (j : Int) := fun j => by
  show (l.set n _).getD (j : Int).toNat _ = if n = j then _ else l.getD (j : Int).toNat _
  rw [Int.toNat_natCast, List.getD_eq_getElem?_getD, List.getD_eq_getElem?_getD, List.getElem?_set]
  by_cases e : n = j
  ·subst e; simp [hn]
  ·rw [if_neg e, if_neg e]
 have hff : Fits (l.set n { zae l (n : Int) with f1 := d, f5 := t }) := fun x hm => by
  rcases List.mem_or_eq_of_mem_set hm with h | h
  ·exact hf x h
  ·subst h; exact ⟨⟨by show d.length < _; omega, hx.1.2⟩, hx.2.1, hx.2.2⟩
 refine ⟨hff, may_sim hf hff ⟨by simp, fun i => ?_⟩ h fun j hj => ?_⟩
 ·have hi : ∀ l : List S45, zae l i = zae l (i.toNat : Int) := fun l => by unfold zae; rw [Int.toNat_natCast]
  rw [hi l, hi (l.set _ _), hrd]
  by_cases e : n = i.toNat
  ·rw [if_pos e, ← e]; exact ⟨rfl, rfl, rfl⟩
  ·rw [if_neg e]; exact ⟨rfl, rfl, rfl⟩
 ·rw [hrd]
  by_cases e : n = j
  ·rw [if_pos e]
   rcases (may_nodes hf h n hn).1 with q | q | q | q
   ·rw [hk] at q; exact absurd q.1 (by decide)
   ·exact .inr (.inl ⟨q.1, ht, hd, q.2.2.2⟩)
   ·rw [hk] at q; exact absurd q.1 (by decide)
   ·rw [hk] at q; exact absurd q.1 (by decide)
  ·rw [if_neg e]; exact (may_nodes hf h j hj).1
theorem bL_irr : ∀ a : List UInt8, Op.bytesLess a a = false
 | [] => by simp [Op.bytesLess]
 | a :: l => by simp [Op.bytesLess, bL_irr l]
theorem bL_trans : ∀ {a b c : List UInt8}, Op.bytesLess a b = true → Op.bytesLess b c = true → Op.bytesLess a c = true
 | [], [], _, h, _ => by simp [Op.bytesLess] at h
 | _ :: _, [], _, h, _ => by simp [Op.bytesLess] at h
 | _, _ :: _, [], _, h => by simp [Op.bytesLess] at h
 | [], _ :: _, _ :: _, _, _ => by simp [Op.bytesLess]
 | a :: x, b :: y, c :: z, h, h' => by
  simp only [Op.bytesLess, Bool.or_eq_true, decide_eq_true_eq, Bool.and_eq_true, beq_iff_eq] at h h' ⊢
  rcases h with h | ⟨rfl, h⟩ <;> rcases h' with h' | ⟨rfl, h'⟩
  ·exact .inl (UInt8.lt_trans h h')
  ·exact .inl h
  ·exact .inl h'
  ·exact .inr ⟨rfl, bL_trans h h'⟩
theorem cmpB_lt : ∀ a b : List UInt8, Lib.compareBytes a b < 0 ↔ Op.bytesLess a b = true
 | [], [] => by simp [Op.bytesLess, Lib.compareBytes]
 | _ :: _, [] => by simp [Op.bytesLess, Lib.compareBytes]
 | [], _ :: _ => by simp [Op.bytesLess, Lib.compareBytes]
 | a :: x, b :: y => by
  simp only [Op.bytesLess, Lib.compareBytes, Bool.or_eq_true, decide_eq_true_eq, Bool.and_eq_true, beq_iff_eq]
  by_cases h : a < b
  ·rw [if_pos h]; exact ⟨fun _ => .inl h, fun _ => by decide⟩
  ·rw [if_neg h]
   by_cases h' : b < a
   ·rw [if_pos h']
    exact ⟨fun q => absurd q (by decide), fun q => by
     rcases q with q | ⟨rfl, _⟩
     ·exact absurd q h
     ·exact absurd h' h⟩
   ·rw [if_neg h', cmpB_lt x y]
    have e : a = b := UInt8.le_antisymm (UInt8.not_lt.1 h') (UInt8.not_lt.1 h)
    exact ⟨fun q => .inr ⟨e, q⟩, fun q => q.elim (fun q => absurd q h) And.right⟩
theorem cmpB_eq : ∀ a b : List UInt8, Lib.compareBytes a b = 0 ↔ a = b
 | [], [] => by simp [Lib.compareBytes]
 | _ :: _, [] => by simp [Lib.compareBytes]
 | [], _ :: _ => by simp [Lib.compareBytes]
 | a :: x, b :: y => by
  simp only [Lib.compareBytes, List.cons.injEq]
  by_cases h : a < b
  ·rw [if_pos h]; exact ⟨fun q => absurd q (by decide), fun q => by obtain ⟨rfl, _⟩ := q; exact absurd h (UInt8.lt_irrefl a)⟩
  ·rw [if_neg h]
   by_cases h' : b < a
   ·rw [if_pos h']; exact ⟨fun q => absurd q (by decide), fun q => by obtain ⟨rfl, _⟩ := q; exact absurd h' (UInt8.lt_irrefl a)⟩
   ·rw [if_neg h', cmpB_eq x y]
    have e : a = b := UInt8.le_antisymm (UInt8.not_lt.1 h') (UInt8.not_lt.1 h)
    exact ⟨fun q => ⟨e, q⟩, And.right⟩
theorem cmpB_swap : ∀ a b : List UInt8, ¬ Lib.compareBytes a b < 0 → Lib.compareBytes a b ≠ 0 → Lib.compareBytes b a < 0
 | [], [], _, h => absurd rfl h
 | _ :: _, [], _, _ => by simp [Lib.compareBytes]
 | [], _ :: _, h, _ => by simp [Lib.compareBytes] at h
 | a :: x, b :: y, h, h2 => by
  simp only [Lib.compareBytes] at h h2 ⊢
  by_cases q : a < b
  ·rw [if_pos q] at h; exact absurd (by decide) h
  ·rw [if_neg q] at h h2
   by_cases q' : b < a
   ·rw [if_pos q']; decide
   ·rw [if_neg q'] at h h2 ⊢
    rw [if_neg q]
    exact cmpB_swap x y h h2
def ltN (x : S66) (s : ByteArray) : Prop := Op.bytesLess x.f0.toList s.toList = true
theorem cmpN_lt (x : S66) (s : ByteArray) : cmpN x s < 0 ↔ ltN x s := by
 unfold cmpN ltN; rw [cmpB_lt, ByteArray.toList_eq, ByteArray.toList_eq]
theorem cmpN_eq (x : S66) (s : ByteArray) : cmpN x s = 0 ↔ x.f0 = s := by
 unfold cmpN; rw [cmpB_eq, ← ByteArray.toList_eq, ← ByteArray.toList_eq, bytes_eq]
def Sorted (ns : List S66) : Prop := ns.Pairwise fun x y => ltN x y.f0
theorem ltN_trans {x y : S66} {s : ByteArray} (h : ltN x y.f0) (h' : ltN y s) : ltN x s := bL_trans h h'
theorem ltN_irr (x : S66) : ¬ ltN x x.f0 := fun h => by unfold ltN at h; rw [bL_irr] at h; cases h
theorem okR_iff (ns : List S66) : (∀ i, i < ns.length → okR ns i) ↔ (∀ x ∈ ns, zbY x.f0 = 0) ∧ Sorted ns := by
 constructor
 ·intro h
  refine ⟨fun x hx => ?_, ?_⟩
  ·obtain ⟨i, hi, rfl⟩ := List.getElem_of_mem hx
   rw [← zb1 ns i hi]; exact (h i hi).1
  ·rw [Sorted, List.pairwise_iff_getElem]
   have key : ∀ d i (hi : i < ns.length) (hj : i + d + 1 < ns.length), ltN ns[i] (ns[i + d + 1]).f0 := by
    intro d
    induction d with
    | zero =>
     intro i hi hj
     have := ((h (i + 1) hj).2).resolve_left (by omega)
     rw [zb1 ns (i + 1) hj, show ((i + 1 : Nat) : Int) - 1 = (i : Int) by omega, zb1 ns i hi] at this
     exact this
    | succ d ih =>
     intro i hi hj
     have h1 := ih i hi (by omega)
     have := ((h (i + d + 1 + 1) (by omega)).2).resolve_left (by omega)
     rw [zb1 ns (i + d + 1 + 1) (by omega), show ((i + d + 1 + 1 : Nat) : Int) - 1 = ((i + d + 1 : Nat) : Int) by omega, zb1 ns (i + d + 1) (by omega)] at this
     exact ltN_trans h1 this
   intro i j hi hj hij
   obtain ⟨d, rfl⟩ : ∃ d, j = i + d + 1 := ⟨j - i - 1, by omega⟩
   exact key d i hi hj
 ·rintro ⟨h1, h2⟩ i hi
  refine ⟨by rw [zb1 ns i hi]; exact h1 _ (List.getElem_mem _), ?_⟩
  by_cases e : i = 0
  ·exact .inl e
  ·refine .inr ?_
   rw [Sorted, List.pairwise_iff_getElem] at h2
   have := h2 (i - 1) i (by omega) hi (by omega)
   rw [zb1 ns i hi, show (i : Int) - 1 = ((i - 1 : Nat) : Int) by omega, zb1 ns (i - 1) (by omega)]
   exact this
structure Split (ns : List S66) (s : ByteArray) (A B : List S66) : Prop where
 eq : ns = A ++ B
 lo : ∀ x ∈ A, ltN x s
 hi : ∀ x ∈ B, ¬ ltN x s
theorem bsF_spec (ns : List S66) (hs : Sorted ns) (s : ByteArray) : ∀ (k i j : Nat), j - i < k → i ≤ j → j ≤ ns.length → (∀ m (h : m < ns.length), m < i → ltN ns[m] s) → (∀ m (h : m < ns.length), j ≤ m → ¬ ltN ns[m] s) →
  bsF k ns s i j ≤ ns.length ∧ (∀ m (h : m < ns.length), m < bsF k ns s i j → ltN ns[m] s) ∧ (∀ m (h : m < ns.length), bsF k ns s i j ≤ m → ¬ ltN ns[m] s)
 | 0, i, j, hk, _, _, _, _ => by omega
 | k + 1, i, j, hk, hij, hj, h1, h2 => by
  unfold bsF
  by_cases e : i < j
  ·rw [if_pos e]
   have hm : (i + j) / 2 < ns.length := by omega
   have hsx := List.pairwise_iff_getElem.1 hs
   by_cases c : cmpN (zat ns (((i + j) / 2 : Nat) : Int)) s < 0
   ·rw [if_pos c]
    rw [cmpN_lt, zb1 ns _ hm] at c
    refine bsF_spec ns hs s k _ j (by omega) (by omega) hj (fun m hml hmi => ?_) h2
    by_cases q : m = (i + j) / 2
    ·subst q; exact c
    ·exact ltN_trans (hsx m _ hml hm (by omega)) c
   ·rw [if_neg c]
    rw [cmpN_lt, zb1 ns _ hm] at c
    refine bsF_spec ns hs s k i _ (by omega) (by omega) (by omega) h1 (fun m hml hmi => ?_)
    by_cases q : m = (i + j) / 2
    ·subst q; exact c
    ·exact fun q2 => c (ltN_trans (hsx _ m hm hml (by omega)) q2)
  ·rw [if_neg e]
   exact ⟨by omega, h1, fun m hml hmi => h2 m hml (by omega)⟩
theorem bs_spec (ns : List S66) (hs : Sorted ns) (s : ByteArray) : Split ns s (ns.take (bs ns s)) (ns.drop (bs ns s)) := by
 obtain ⟨h1, h2, h3⟩ := bsF_spec ns hs s (ns.length + 1) 0 ns.length (by omega) (Nat.zero_le _) (Nat.le_refl _) (fun m _ h => by omega) (fun m h1 h2 => by omega)
 refine ⟨(List.take_append_drop _ _).symm, fun x hx => ?_, fun x hx => ?_⟩
 ·obtain ⟨i, hi, rfl⟩ := List.getElem_of_mem hx
  rw [List.length_take] at hi
  rw [List.getElem_take]
  exact h2 i (by omega) (by show i < bs ns s; omega)
 ·obtain ⟨i, hi, rfl⟩ := List.getElem_of_mem hx
  rw [List.length_drop] at hi
  rw [List.getElem_drop]
  exact h3 _ (by omega) (by show bs ns s ≤ _; omega)
theorem Split.len {s : ByteArray} : ∀ {ns A B A' B' : List S66}, Split ns s A B → Split ns s A' B' → A = A' ∧ B = B'
 | ns, [], B, [], B', h, h' => ⟨rfl, by have := h.eq.symm.trans h'.eq; exact this⟩
 | ns, [], B, x :: A', B', h, h' => by
  have e := h.eq.symm.trans h'.eq
  exact absurd (h'.lo x (List.mem_cons_self ..)) (h.hi x (by have e : B = x :: (A' ++ B') := e; rw [e]; exact List.mem_cons_self ..))
 | ns, x :: A, B, [], B', h, h' => by
  have e := h.eq.symm.trans h'.eq
  exact absurd (h.lo x (List.mem_cons_self ..)) (h'.hi x (by have e : x :: (A ++ B) = B' := e; rw [← e]; exact List.mem_cons_self ..))
 | ns, x :: A, B, y :: A', B', h, h' => by
  have e : x :: (A ++ B) = y :: (A' ++ B') := h.eq.symm.trans h'.eq
  injection e with e1 e2
  obtain ⟨q1, q2⟩ := Split.len (ns := A ++ B) (A := A) (B := B) (A' := A') (B' := B') ⟨rfl, fun z hz => h.lo z (List.mem_cons_of_mem _ hz), h.hi⟩ ⟨e2, fun z hz => h'.lo z (List.mem_cons_of_mem _ hz), h'.hi⟩
  exact ⟨by rw [e1, q1], q2⟩
theorem Split.bs {ns : List S66} (hs : Sorted ns) {s : ByteArray} {A B : List S66} (h : Split ns s A B) : bs ns s = A.length := by
 obtain ⟨e, _⟩ := Split.len (ns := ns) h (bs_spec ns hs s)
 rw [e, List.length_take, Nat.min_eq_left (bs_le ns s)]
theorem split_ex {ns : List S66} (hs : Sorted ns) (s : ByteArray) : ∃ A B, Split ns s A B ∧ bs ns s = A.length := ⟨_, _, bs_spec ns hs s, Split.bs hs (bs_spec ns hs s)⟩
theorem Split.at {ns : List S66} (hs : Sorted ns) {s : ByteArray} {A B : List S66} (h : Split ns s A B) : bsAt ns s = true ↔ ∃ n B', B = ⟨s, n⟩ :: B' := by
 have hb := h.bs hs
 unfold bsAt
 rw [Bool.and_eq_true, decide_eq_true_eq, beq_iff_eq, cmpN_eq, hb]
 have hl : ns.length = A.length + B.length := by rw [h.eq, List.length_append]
 constructor
 ·rintro ⟨h1, h2⟩
  rw [zb1 ns _ h1] at h2
  cases B with
  | nil => simp at hl; omega
  | cons x B' =>
   have e : ns[A.length]'h1 = x := by
    have := h.eq
    subst this
    rw [List.getElem_append_right (Nat.le_refl _)]; simp
   rw [e] at h2
   exact ⟨x.f1, B', by rw [← h2]⟩
 ·rintro ⟨n, B', rfl⟩
  have h1 : A.length < ns.length := by rw [hl]; simp
  refine ⟨h1, ?_⟩
  rw [zb1 ns _ h1]
  have := h.eq
  subst this
  rw [List.getElem_append_right (Nat.le_refl _)]; simp
theorem split_mem {ns : List S66} (hs : Sorted ns) {s : ByteArray} {n : Int} (hm : (⟨s, n⟩ : S66) ∈ ns) : ∃ A B, Split ns s A (⟨s, n⟩ :: B) ∧ bs ns s = A.length := by
 obtain ⟨A, B, h, hb⟩ := split_ex hs s
 have hs' := hs
 rw [Sorted, h.eq, List.pairwise_append] at hs'
 rw [h.eq] at hm
 rcases List.mem_append.1 hm with q | q
 ·exact absurd (h.lo _ q) (ltN_irr (⟨s, n⟩ : S66))
 ·cases B with
  | nil => cases q
  | cons x B' =>
   rcases List.mem_cons.1 q with e | q
   ·subst e; exact ⟨A, B', h, hb⟩
   ·exact absurd ((List.pairwise_cons.1 hs'.2.1).1 _ q) (h.hi x (List.mem_cons_self ..))
theorem bsAt_mem {ns : List S66} (hs : Sorted ns) (s : ByteArray) : bsAt ns s = true ↔ ∃ n, (⟨s, n⟩ : S66) ∈ ns := by
 constructor
 ·intro h
  obtain ⟨A, B, hsp, hb⟩ := split_ex hs s
  obtain ⟨n, B', rfl⟩ := (hsp.at hs).1 h
  exact ⟨n, by rw [hsp.eq]; simp⟩
 ·rintro ⟨n, hm⟩
  obtain ⟨A, B, hsp, hb⟩ := split_mem hs hm
  exact (hsp.at hs).2 ⟨n, B, rfl⟩
theorem bs_mem {ns : List S66} (hs : Sorted ns) {s : ByteArray} {n : Int} (hm : (⟨s, n⟩ : S66) ∈ ns) : bs ns s < ns.length ∧ zat ns (bs ns s : Int) = ⟨s, n⟩ := by
 obtain ⟨A, B, hsp, hb⟩ := split_mem hs hm
 have h1 : bs ns s < ns.length := by rw [hb, hsp.eq]; simp
 refine ⟨h1, ?_⟩
 rw [zb1 ns _ h1]
 have := hsp.eq
 subst this
 have : ∀ (i : Nat) (h : i < (A ++ (⟨s, n⟩ : S66) :: B).length), i = A.length → (A ++ (⟨s, n⟩ : S66) :: B)[i] = ⟨s, n⟩ := fun i h e => by subst e; rw [List.getElem_append_right (Nat.le_refl _)]; simp
 exact this _ _ hb
def insN (ns : List S66) (s : ByteArray) (n : Int) : List S66 := ns.take (bs ns s) ++ ⟨s, n⟩ :: ns.drop (bs ns s)
def delN (ns : List S66) (s : ByteArray) : List S66 := ns.eraseIdx (bs ns s)
theorem insN_split {ns : List S66} (hs : Sorted ns) {s : ByteArray} {A B : List S66} (h : Split ns s A B) (n : Int) : insN ns s n = A ++ ⟨s, n⟩ :: B := by
 unfold insN; rw [h.bs hs]
 have := h.eq
 subst this
 rw [List.take_left, List.drop_left]
theorem delN_split {ns : List S66} (hs : Sorted ns) {s : ByteArray} {n : Int} {A B : List S66} (h : Split ns s A (⟨s, n⟩ :: B)) : delN ns s = A ++ B := by
 unfold delN; rw [h.bs hs]
 have := h.eq
 subst this
 rw [List.eraseIdx_append_of_length_le (Nat.le_refl _)]; simp
theorem insN_sorted {ns : List S66} (hs : Sorted ns) {s : ByteArray} (h : bsAt ns s = false) (n : Int) : Sorted (insN ns s n) := by
 obtain ⟨A, B, hsp, hb⟩ := split_ex hs s
 rw [insN_split hs hsp]
 have hs' := hs
 rw [Sorted, hsp.eq, List.pairwise_append] at hs'
 have hB : ∀ y ∈ B, ltN ⟨s, n⟩ y.f0 := by
  intro y hy
  have h1 := hsp.hi y hy
  have h2 : y.f0 ≠ s := fun e => by
   have : bsAt ns s = true := (bsAt_mem hs s).2 ⟨y.f1, by rw [hsp.eq, ← e]; exact List.mem_append_right _ hy⟩
   rw [h] at this; cases this
  unfold ltN at h1 ⊢
  rw [← cmpB_lt] at h1 ⊢
  have h3 : Lib.compareBytes y.f0.toList s.toList ≠ 0 := fun q => h2 (bytes_eq.1 ((cmpB_eq _ _).1 q))
  exact cmpB_swap _ _ h1 h3
 rw [Sorted, List.pairwise_append]
 refine ⟨hs'.1, List.pairwise_cons.2 ⟨hB, hs'.2.1⟩, fun x hx y hy => ?_⟩
 rcases List.mem_cons.1 hy with rfl | hy
 ·exact hsp.lo x hx
 ·exact hs'.2.2 x hx y hy
theorem insN_mem {ns : List S66} {s : ByteArray} {n : Int} {x : S66} : x ∈ insN ns s n ↔ x = ⟨s, n⟩ ∨ x ∈ ns := by
 unfold insN
 rw [List.mem_append, List.mem_cons]
 conv => rhs; rw [← List.take_append_drop (bs ns s) ns, List.mem_append]
 constructor
 ·rintro (h | h | h)
  ·exact .inr (.inl h)
  ·exact .inl h
  ·exact .inr (.inr h)
 ·rintro (h | h | h)
  ·exact .inr (.inl h)
  ·exact .inl h
  ·exact .inr (.inr h)
theorem insN_len (ns : List S66) (s : ByteArray) (n : Int) : (insN ns s n).length = ns.length + 1 := by
 unfold insN; have := bs_le ns s
 rw [List.length_append, List.length_cons, List.length_take, List.length_drop]; omega
theorem delN_sorted {ns : List S66} (hs : Sorted ns) (s : ByteArray) : Sorted (delN ns s) := List.Pairwise.sublist (List.eraseIdx_sublist _ _) hs
theorem delN_sub {ns : List S66} {s : ByteArray} {x : S66} (h : x ∈ delN ns s) : x ∈ ns := List.mem_of_mem_eraseIdx h
theorem delN_mem {ns : List S66} (hs : Sorted ns) {s : ByteArray} {n : Int} (hm : (⟨s, n⟩ : S66) ∈ ns) {x : S66} : x ∈ delN ns s ↔ x ∈ ns ∧ x.f0 ≠ s := by
 obtain ⟨A, B, hsp, hb⟩ := split_mem hs hm
 rw [delN_split hs hsp, hsp.eq, List.mem_append, List.mem_append, List.mem_cons]
 have hs' := hs
 rw [Sorted, hsp.eq, List.pairwise_append, List.pairwise_cons] at hs'
 constructor
 ·rintro (h | h)
  ·exact ⟨.inl h, fun e => by have := hsp.lo x h; rw [← e] at this; exact ltN_irr x this⟩
  ·exact ⟨.inr (.inr h), fun e => by have := hs'.2.1.1 x h; rw [e] at this; exact ltN_irr ⟨s, n⟩ this⟩
 ·rintro ⟨h | h | h, h2⟩
  ·exact .inl h
  ·rw [h] at h2; exact absurd rfl h2
  ·exact .inr h
theorem delN_len {ns : List S66} {s : ByteArray} (h : bs ns s < ns.length) : (delN ns s).length = ns.length - 1 := by
 unfold delN; rw [List.length_eraseIdx, if_pos h]
theorem ins_del {ns : List S66} (hs : Sorted ns) {s : ByteArray} {n : Int} (hm : (⟨s, n⟩ : S66) ∈ ns) : insN (delN ns s) s n = ns := by
 obtain ⟨A, B, hsp, hb⟩ := split_mem hs hm
 have h2 : Split (delN ns s) s A B := ⟨delN_split hs hsp, hsp.lo, fun x hx => hsp.hi x (List.mem_cons_of_mem _ hx)⟩
 rw [insN_split (delN_sorted hs s) h2, ← hsp.eq]
def cntN (ns : List S66) (i : Nat) : Nat := ns.countP fun x => x.f1 == (i : Int)
theorem cntN_ins (ns : List S66) (s : ByteArray) (n : Int) (i : Nat) : cntN (insN ns s n) i = cntN ns i + if n = (i : Int) then 1 else 0 := by
 unfold cntN insN
 rw [List.countP_append, List.countP_cons]
 have e : ns.countP (fun x => x.f1 == (i : Int)) = (ns.take (bs ns s)).countP (fun x => x.f1 == (i : Int)) + (ns.drop (bs ns s)).countP (fun x => x.f1 == (i : Int)) := by rw [← List.countP_append, List.take_append_drop]
 rw [e]
 simp only [beq_iff_eq]
 omega
theorem cntN_del {ns : List S66} (hs : Sorted ns) {s : ByteArray} {n : Int} (hm : (⟨s, n⟩ : S66) ∈ ns) (i : Nat) : cntN (delN ns s) i + (if n = (i : Int) then 1 else 0) = cntN ns i := by
 have h := cntN_ins (delN ns s) s n i
 rw [ins_del hs hm] at h
 exact h.symm
theorem cntN_pos {ns : List S66} {i : Nat} : 0 < cntN ns i ↔ ∃ x ∈ ns, x.f1 = (i : Int) := by
 unfold cntN; rw [List.countP_pos_iff]; simp
def cnt (l : List S45) (i : Nat) : Nat := (l.map fun x => cntN x.f2 i).sum
structure MayP (l : List S45) : Prop where
 pos : 0 < l.length
 len : l.length ≤ 64
 last : 1 < l.length → (zae l ((l.length : Int) - 1)).f0 ≠ 0
 k0 : (zae l ((0 : Nat) : Int)).f0 = 2
 l0 : (zae l ((0 : Nat) : Int)).f4 = 1
 nodes : ∀ j : Nat, j < l.length → zb9 (zae l (j : Int))
 names : ∀ j : Nat, j < l.length → ∀ x ∈ (zae l (j : Int)).f2, zbN l x
 links : ∀ i : Nat, 0 < i → i < l.length → (zae l (i : Int)).f4 = (cnt l i : Int)
 dirs : ∀ i : Nat, 0 < i → i < l.length → (zae l (i : Int)).f0 = 2 → (zae l (i : Int)).f4 ≤ 1 ∧ ((zae l (i : Int)).f4 = 0 → (zae l (i : Int)).f2 = []) ∧ ((zae l (i : Int)).f4 = 1 → Reach l i)
theorem fold_cnt : ∀ (ns : List S66) (c : List Int) (L : Nat), c.length = L → (∀ x ∈ ns, 0 ≤ x.f1 ∧ x.f1 < (L : Int)) → (∀ j : Nat, j < L → 0 ≤ rd c (j : Int) ∧ rd c (j : Int) + ns.length ≤ 1000000000) → ∀ j : Nat, j < L → rd (ns.foldl bump c) (j : Int) = rd c (j : Int) + (cntN ns j : Int)
 | [], c, L, _, _, _, j, _ => by simp [cntN]
 | x :: r, c, L, hc, hx, hb, j, hj => by
  obtain ⟨x1, x2⟩ := hx x (List.mem_cons_self ..)
  obtain ⟨m, hm⟩ : ∃ m : Nat, x.f1 = (m : Int) := ⟨x.f1.toNat, by omega⟩
  have hL : ∀ i : Nat, rd (bump c x) (i : Int) = if m = i then rd c (m : Int) + 1 else rd c (i : Int) := fun i => by
   unfold bump
   rw [hm, Int.toNat_natCast, rd_set _ _ _ _ (by omega)]
   have := hb m (by omega)
   by_cases e : m = i
   ·rw [if_pos e, if_pos e]; unfold wrap64; rw [List.length_cons] at this; omega
   ·rw [if_neg e, if_neg e]
  rw [List.foldl_cons, fold_cnt r (bump c x) L (by rw [bump_len]; exact hc) (fun y hy => hx y (List.mem_cons_of_mem _ hy)) (fun i hi => ?_) j hj, hL]
  ·have : (cntN (x :: r) j : Int) = cntN r j + if m = j then 1 else 0 := by
    unfold cntN; rw [List.countP_cons]
    have : (x.f1 == (j : Int)) = decide (m = j) := by rw [hm]; by_cases e : m = j <;> simp [e] <;> omega
    rw [this]
    by_cases e : m = j <;> simp [e]
   rw [this]
   by_cases e : m = j
   ·subst e; rw [if_pos rfl, if_pos rfl]; omega
   ·rw [if_neg e, if_neg e]; omega
  ·rw [hL]
   have h1 := hb i hi
   rw [List.length_cons] at h1
   by_cases e : m = i
   ·subst e; rw [if_pos rfl]; omega
   ·rw [if_neg e]; omega
theorem bumps_cnt (l : List S45) (hl : l.length ≤ 64) (hn : ∀ j : Nat, j < l.length → (zae l (j : Int)).f2.length ≤ 64 ∧ ∀ x ∈ (zae l (j : Int)).f2, 0 ≤ x.f1 ∧ x.f1 < (l.length : Int)) : ∀ (d i : Nat) (c : List Int), i + d = l.length → c.length = l.length → (∀ j : Nat, j < l.length → 0 ≤ rd c (j : Int) ∧ rd c (j : Int) ≤ 64 * i) →
  ∀ j : Nat, j < l.length → rd (bumps l d i c) (j : Int) = rd c (j : Int) + (((l.drop i).map fun x => cntN x.f2 j).sum : Nat)
 | 0, i, c, h, _, _, j, _ => by rw [List.drop_eq_nil_of_le (by omega)]; show rd c (j : Int) = _; simp
 | d + 1, i, c, h, hc, hb, j, hj => by
  obtain ⟨h1, h2⟩ := hn i (by omega)
  have hf := fold_cnt (zae l (i : Int)).f2 c l.length hc h2 (fun j hj => by have := hb j hj; exact ⟨this.1, by omega⟩)
  have hle : ∀ j, cntN (zae l (i : Int)).f2 j ≤ 64 := fun j => Nat.le_trans (List.countP_le_length ..) h1
  show rd (bumps l d (i + 1) _) (j : Int) = _
  rw [bumps_cnt l hl hn d (i + 1) _ (by omega) (by rw [fold_len]; exact hc) (fun j hj => by rw [hf j hj]; have := hb j hj; have := hle j; omega) j hj, hf j hj, List.drop_eq_getElem_cons (show i < l.length by omega), List.map_cons, List.sum_cons, zb0 l i (by omega)]
  omega
theorem headB_iff (l : List S45) : zbO l = true ↔ 0 < l.length ∧ l.length ≤ 64 ∧ (1 < l.length → (zae l ((l.length : Int) - 1)).f0 ≠ 0) ∧ (zae l 0).f0 = 2 ∧ (zae l 0).f4 = 1 := by
 unfold zbO
 simp only [Bool.and_eq_true, decide_eq_true_eq, beq_iff_eq, Bool.not_eq_true', Bool.and_eq_false_iff, decide_eq_false_iff_not, beq_eq_false_iff_ne, ne_eq]
 constructor
 ·rintro ⟨⟨⟨⟨h1, h2⟩, h3⟩, h4⟩, h5⟩
  exact ⟨h1, h2, fun h => h3.resolve_left (fun q => q h), h4, h5⟩
 ·rintro ⟨h1, h2, h3, h4, h5⟩
  refine ⟨⟨⟨⟨h1, h2⟩, ?_⟩, h4⟩, h5⟩
  by_cases h : 1 < l.length
  ·exact .inr (h3 h)
  ·exact .inl h
theorem nodeP_names {x : S45} (h : zb9 x) : x.f2.length ≤ 64 := by
 rcases h with h | h | h | h
 ·rw [h.2]; exact Nat.zero_le _
 ·rw [h.2.2.2.1]; exact Nat.zero_le _
 ·exact h.2.2.1
 ·rw [h.2.2.2.2.2.2]; exact Nat.zero_le _
theorem last_iff (l : List S45) (hl : l.length ≤ 64) (hN : ∀ j : Nat, j < l.length → zb9 (zae l (j : Int)) ∧ ∀ x ∈ (zae l (j : Int)).f2, zbN l x) (R : List Bool) (hR : ∀ i, on R i = true ↔ Reach l i) :
  lastB l (bumps l l.length 0 (List.replicate l.length 0)) R l.length = true ↔ ∀ i : Nat, 0 < i → i < l.length → (zae l (i : Int)).f4 = (cnt l i : Int) ∧ ((zae l (i : Int)).f0 = 2 → (zae l (i : Int)).f4 ≤ 1 ∧ ((zae l (i : Int)).f4 = 0 → (zae l (i : Int)).f2 = []) ∧ ((zae l (i : Int)).f4 = 1 → Reach l i)) := by
 have hz : ∀ (n i : Nat), rd (List.replicate n 0) (i : Int) = 0 := fun n i => by
  unfold rd; rw [Int.toNat_natCast, List.getD_eq_getElem?_getD, List.getElem?_replicate]; split <;> rfl
 have hb : ∀ j : Nat, j < l.length → rdOf 0 (bumps l l.length 0 (List.replicate l.length 0)) (j : Int) = (cnt l j : Int) := fun j hj => by
  have := bumps_cnt l hl (fun j hj => ⟨nodeP_names (hN j hj).1, fun x hx => by have := (hN j hj).2 x hx; exact ⟨by have := this.1; omega, this.2.1⟩⟩) l.length 0 (List.replicate l.length 0) (by omega) (by simp) (fun j _ => by rw [hz]; omega) j hj
  rw [hz, List.drop_zero] at this
  show rd _ _ = _
  rw [this]; unfold cnt; omega
 unfold lastB
 simp only [List.all_eq_true, List.mem_range, Bool.not_eq_true']
 have key : ∀ i : Nat, i < l.length → (zbl l (bumps l l.length 0 (List.replicate l.length 0)) R i = false ↔ (0 < i → (zae l (i : Int)).f4 = (cnt l i : Int) ∧ ((zae l (i : Int)).f0 = 2 → (zae l (i : Int)).f4 ≤ 1 ∧ ((zae l (i : Int)).f4 = 0 → (zae l (i : Int)).f2 = []) ∧ ((zae l (i : Int)).f4 = 1 → Reach l i)))) := fun i hi => by
  have hr : rdOf false R (i : Int) = true ↔ Reach l i := hR i
  unfold zbl
  rw [hb i hi]
  have e2 : (zae l (i : Int)).f2 = [] ↔ ¬ 0 < (zae l (i : Int)).f2.length := by rw [← List.length_eq_zero_iff]; omega
  rw [← hr, e2]
  by_cases q0 : 0 < i
  ·rw [decide_eq_true q0, Bool.true_and]
   simp only [Bool.or_eq_false_iff, Bool.and_eq_false_iff, bne_eq_false_iff_eq, beq_eq_false_iff_ne, decide_eq_false_iff_not, Bool.not_eq_false', ne_eq]
   constructor
   ·rintro ⟨h1, h2⟩ _
    refine ⟨h1, fun hk => ?_⟩
    obtain ⟨h3, h4, h5⟩ := h2.resolve_left (fun q => q hk)
    exact ⟨by omega, fun q => h4.resolve_left (fun q2 => q2 q), fun q => h5.resolve_left (fun q2 => q2 q)⟩
   ·intro h
    obtain ⟨h1, h2⟩ := h q0
    refine ⟨h1, ?_⟩
    by_cases hk : (zae l (i : Int)).f0 = 2
    ·obtain ⟨h3, h4, h5⟩ := h2 hk
     refine .inr ⟨by omega, ?_, ?_⟩
     ·by_cases q : (zae l (i : Int)).f4 = 0
      ·exact .inr (h4 q)
      ·exact .inl q
     ·by_cases q : (zae l (i : Int)).f4 = 1
      ·exact .inr (h5 q)
      ·exact .inl q
    ·exact .inl hk
  ·rw [decide_eq_false q0, Bool.false_and]
   exact ⟨fun _ h => absurd h q0, fun _ => rfl⟩
 exact ⟨fun h i h0 hi => (key i hi).1 (h i hi) h0, fun h i hi => (key i hi).2 (fun h0 => h i h0 hi)⟩
theorem may_iff {l : List S45} (hf : Fits l) : EvB (fun k => zaG.f k l) (MayP l) := by
 by_cases hh : zbO l = true
 ·by_cases hA : ∀ j, j < l.length → zb9 (zae l (j : Int)) ∧ ∀ x ∈ (zae l (j : Int)).f2, zbN l x
  ·obtain ⟨R, hR, hE⟩ := may_last l hf hh hA
   obtain ⟨h1, h2, h3, h4, h5⟩ := (headB_iff l).1 hh
   have hL := last_iff l h2 hA R hR
   refine ⟨_, hE, hL.trans ⟨fun h => ⟨h1, h2, h3, h4, h5, fun j hj => (hA j hj).1, fun j hj => (hA j hj).2, fun i h0 hi => (h i h0 hi).1, fun i h0 hi => (h i h0 hi).2⟩, fun h i h0 hi => ⟨h.links i h0 hi, h.dirs i h0 hi⟩⟩⟩
  ·refine ⟨false, Ev.congr (fun k => by unfold zaG.f; rw [if_pos hh, if_neg (fun h => hA ((nodes_iff l hf).1 h))]) (Ev.now false), ⟨fun h => by (cases h), fun h => absurd (fun j hj => ⟨h.nodes j hj, h.names j hj⟩) hA⟩⟩
 ·refine ⟨false, Ev.congr (fun k => by unfold zaG.f; rw [if_neg hh]) (Ev.now false), ⟨fun h => by (cases h), fun h => absurd ((headB_iff l).2 ⟨h.pos, h.len, h.last, h.k0, h.l0⟩) hh⟩⟩
theorem may_of {l : List S45} (hf : Fits l) (h : MayP l) : Ev (fun k => zaG.f k l) true := (may_iff hf).out h
theorem of_may {l : List S45} (hf : Fits l) (h : Ev (fun k => zaG.f k l) true) : MayP l := by
 obtain ⟨r, h1, h2⟩ := may_iff hf
 exact h2.1 (Ev.one h1 h)
def zbz.f (k : Nat) (l0_0 : List (S45)) (a1 : Int) (a2 : ByteArray) : Option (Int × Int) := (zbo.f l0_0 a1).bind fun t347 => (if t347 = true then ((zaE.f k a2).bind fun t348 => (if t348 = 0 then ((za1.f l0_0 a1 a2).bind fun bt349 => (if bt349.2 = true then (if 0 ≤ a1 then (if a1 < (l0_0.length : Int) then (if 0 ≤ bt349.1 then (if bt349.1 < (((zae l0_0 a1).f2).length : Int) then (some ((zat ((zae l0_0 a1).f2) bt349.1).f1, 0)) else (none)) else (none)) else (none)) else (none)) else (some (0, 44)))) else (some (0, t348)))) else (some (0, 54)))
set_option maxHeartbeats 8000000 in
set_option maxRecDepth 100000 in
theorem zbz.calls (k : Nat) (A0_0 : Option Addr) (c0_0 : Nat) (l0_0 : List (S45)) (a1 : Int) (a2 : ByteArray) (r1 : Int) (r2 : Int) (w : World) (hr0_0 : Kd.C k45 w A0_0 l0_0.length l0_0) (hc0_0 : l0_0.length ≤ c0_0) (h : zbz.f k l0_0 a1 a2 = some (r1, r2)) :
  Calls Try.prog 53 #[.agg #[.slice A0_0 l0_0.length c0_0], .int .i64 a1, .string a2] w fun e w' => e = .returned (.tuple #[.int .i64 r1, .int .i64 r2]) ∧ Below w.heap.size w w' := by
 have hu24 := Try.underlying24
 have HR0_0 := zaa.mk hr0_0
 have HC0_0 := zaa.mk hc0_0
 clear hr0_0 hc0_0
 have HB := zaa.mk (Below.refl w.heap.size w)
 have H : ((zbo.f l0_0 a1).bind fun t347 => (if t347 = true then ((zaE.f k a2).bind fun t348 => (if t348 = 0 then ((za1.f l0_0 a1 a2).bind fun bt349 => (if bt349.2 = true then (if 0 ≤ a1 then (if a1 < (l0_0.length : Int) then (if 0 ≤ bt349.1 then (if bt349.1 < (((zae l0_0 a1).f2).length : Int) then (some ((zat ((zae l0_0 a1).f2) bt349.1).f1, 0)) else (none)) else (none)) else (none)) else (none)) else (some (0, 44)))) else (some (0, t348)))) else (some (0, 54)))) = some (r1, r2) := h
 clear h
 replace H := Option.bind_eq_some_iff.mp H
 obtain ⟨t347, A40, H⟩ := H
 replace H : (if t347 = true then ((zaE.f k a2).bind fun t348 => (if t348 = 0 then ((za1.f l0_0 a1 a2).bind fun bt349 => (if bt349.2 = true then (if 0 ≤ a1 then (if a1 < (l0_0.length : Int) then (if 0 ≤ bt349.1 then (if bt349.1 < (((zae l0_0 a1).f2).length : Int) then (some ((zat ((zae l0_0 a1).f2) bt349.1).f1, 0)) else (none)) else (none)) else (none)) else (none)) else (some (0, 44)))) else (some (0, t348)))) else (some (0, 54))) = some (r1, r2) := H
 have A4 := zaa.mk A40
 clear A40
 by_cases c5 : t347 = true
 focus
  subst c5
  have H1 : ((zaE.f k a2).bind fun t348 => (if t348 = 0 then ((za1.f l0_0 a1 a2).bind fun bt349 => (if bt349.2 = true then (if 0 ≤ a1 then (if a1 < (l0_0.length : Int) then (if 0 ≤ bt349.1 then (if bt349.1 < (((zae l0_0 a1).f2).length : Int) then (some ((zat ((zae l0_0 a1).f2) bt349.1).f1, 0)) else (none)) else (none)) else (none)) else (none)) else (some (0, 44)))) else (some (0, t348)))) = some (r1, r2) := by rw [if_pos rfl] at H; exact H
  clear H
  have H := H1
  clear H1
  replace H := Option.bind_eq_some_iff.mp H
  obtain ⟨t348, A60, H⟩ := H
  replace H : (if t348 = 0 then ((za1.f l0_0 a1 a2).bind fun bt349 => (if bt349.2 = true then (if 0 ≤ a1 then (if a1 < (l0_0.length : Int) then (if 0 ≤ bt349.1 then (if bt349.1 < (((zae l0_0 a1).f2).length : Int) then (some ((zat ((zae l0_0 a1).f2) bt349.1).f1, 0)) else (none)) else (none)) else (none)) else (none)) else (some (0, 44)))) else (some (0, t348))) = some (r1, r2) := H
  have A6 := zaa.mk A60
  clear A60
  by_cases c7 : t348 = 0
  focus
   rw [if_pos c7] at H
   have c7b0 : (t348 == 0) = true := beq_iff_eq.mpr c7
   have c7b1 : (t348 != 0) = false := bne_eq_false_iff_eq.mpr c7
   clear c7
   replace H := Option.bind_eq_some_iff.mp H
   obtain ⟨⟨t349, t350⟩, A80, H⟩ := H
   replace H : (if t350 = true then (if 0 ≤ a1 then (if a1 < (l0_0.length : Int) then (if 0 ≤ t349 then (if t349 < (((zae l0_0 a1).f2).length : Int) then (some ((zat ((zae l0_0 a1).f2) t349).f1, 0)) else (none)) else (none)) else (none)) else (none)) else (some (0, 44))) = some (r1, r2) := H
   have A8 := zaa.mk A80
   clear A80
   by_cases c9 : t350 = true
   focus
    subst c9
    have H1 : (if 0 ≤ a1 then (if a1 < (l0_0.length : Int) then (if 0 ≤ t349 then (if t349 < (((zae l0_0 a1).f2).length : Int) then (some ((zat ((zae l0_0 a1).f2) t349).f1, 0)) else (none)) else (none)) else (none)) else (none)) = some (r1, r2) := by rw [if_pos rfl] at H; exact H
    clear H
    have H := H1
    clear H1
    by_cases c10 : 0 ≤ a1
    focus
     rw [if_pos c10] at H
     have c10b0 : decide (0 ≤ a1) = true := decide_eq_true c10
     clear c10
     by_cases c11 : a1 < (l0_0.length : Int)
     focus
      rw [if_pos c11] at H
      have c11b0 : decide (a1 < (l0_0.length : Int)) = true := decide_eq_true c11
      clear c11
      by_cases c12 : 0 ≤ t349
      focus
       rw [if_pos c12] at H
       have c12b0 : decide (0 ≤ t349) = true := decide_eq_true c12
       clear c12
       by_cases c13 : t349 < (((zae l0_0 a1).f2).length : Int)
       focus
        rw [if_pos c13] at H
        have c13b0 : decide (t349 < (((zae l0_0 a1).f2).length : Int)) = true := decide_eq_true c13
        clear c13
        simp only [Option.some.injEq, Prod.mk.injEq] at H
        obtain ⟨rfl, rfl⟩ := H
       rotate_left 1
       ·rw [if_neg c13] at H
        exact absurd H (by simp)
      rotate_left 1
      ·rw [if_neg c12] at H
       exact absurd H (by simp)
     rotate_left 1
     ·rw [if_neg c11] at H
      exact absurd H (by simp)
    rotate_left 1
    ·rw [if_neg c10] at H
     exact absurd H (by simp)
   rotate_left 1
   focus
    replace c9 := Bool.eq_false_iff.mpr c9
    subst c9
    have H1 : (some (0, 44)) = some (r1, r2) := by rw [if_neg (show ¬ (false = true) by decide)] at H; exact H
    clear H
    have H := H1
    clear H1
    simp only [Option.some.injEq, Prod.mk.injEq] at H
    obtain ⟨rfl, rfl⟩ := H
  rotate_left 2
  focus
   rw [if_neg c7] at H
   have c7b0 : (t348 == 0) = false := beq_eq_false_iff_ne.mpr c7
   have c7b1 : (t348 != 0) = true := bne_iff_ne.mpr c7
   simp only [Option.some.injEq, Prod.mk.injEq] at H
   obtain ⟨rfl, rfl⟩ := H
 rotate_left 3
 focus
  replace c5 := Bool.eq_false_iff.mpr c5
  subst c5
  have H1 : (some (0, 54)) = some (r1, r2) := by rw [if_neg (show ¬ (false = true) by decide)] at H; exact H
  clear H
  have H := H1
  clear H1
  simp only [Option.some.injEq, Prod.mk.injEq] at H
  obtain ⟨rfl, rfl⟩ := H
 all_goals
  go_enter Try.func53, Try.ntmps53
  go_wp2_with (first | ((with_reducible refine zaT (N := 3) rfl ?_); refine zaN ?hg (N := 3) ?hd (cs := #[.slice A0_0 l0_0.length c0_0]) (t := 24) ?hr ?_; (case hd => rfl); (case hg => rfl); (case hr => first | (go_simp; done) | (go_simp; rfl)); intro gb346 hg wq1 hbox hb; have n0_ := zaa.mk (zai (by repeat (first | (with_reducible first | exact HB.out | apply zac | apply zab | apply zad) | exact HB.out)) hb); have n1_ := zaa.mk (hbox); have n2_ := zaa.mk ((by rw [hg]; exact (zao (by repeat (first | (with_reducible first | exact HB.out | apply zac | apply zab | apply zad) | exact HB.out))) : w.heap.size ≤ gb346)); have n3_ := zaa.mk ((by rw [hg]; exact (zao (by repeat (first | (with_reducible first | exact HB.out | apply zac | apply zab | apply zad) | exact HB.out))) : w.heap.size ≤ gb346)); clear HB; have HB := n0_; have BK346 := n1_; have GW346 := n2_; have GE346 := n3_; clear n0_ n1_ n2_ n3_; clear hb hbox hg; have hczq2_0 : wq1.cell? ⟨gb346, 0, none⟩ = some (.slice A0_0 l0_0.length c0_0) := (zah BK346.out 0).trans rfl; have hfzq2_0 := zaf BK346.out 0) | ((with_reducible refine zaW (f := 56) rfl ?_); refine zbE (some 13) rfl rfl Try.func56 (by kernel_rfl) rfl #[.agg #[.slice A0_0 l0_0.length c0_0], .int .i64 a1] rfl (by (try simp only [List.map_toArray, List.map_cons, List.map_nil]); first | done | rfl | (simp only [List.length_drop, List.length_take]; rfl)) ?_; (with_reducible refine (zbo.calls _ _ l0_0 a1 _ _ ?side1 ?side2 A4.out).mono ?_); (case side1 => repeat (first | exact (Kd.C_below HR0_0.out HB.out) | (with_reducible refine Kd.C_alloc ?_ _) | (with_reducible refine Kd.C_drewN ?_ _) | (with_reducible refine Kd.C_drew ?_))); (case side2 => exact HC0_0.out); rintro e wq3 ⟨rfl, hb⟩; refine ⟨_, rfl, ?_⟩; have n0_ := zaa.mk (zaq (g := gb346) (o := .cells #[.slice A0_0 l0_0.length c0_0] 24 (0, 0)) (by (with_reducible repeat (first | refine zak ?_ _ | refine zam ?_ | refine zaj ?_ _)); exact BK346.out) hb); have n1_ := zaa.mk (zai (by repeat (first | (with_reducible first | exact HB.out | apply zac | apply zab | apply zad | refine zal ?_ GE346.out) | exact HB.out)) hb); clear BK346; clear HB; have BK346 := n0_; have HB := n1_; clear n0_ n1_; (try clear hb); (try clear hb2); (try clear hk); (try clear hi)) | ((with_reducible refine zaW (f := 14) rfl ?_); refine zbE (some 16) rfl rfl Try.func14 (by kernel_rfl) rfl #[.string a2] rfl (by (try simp only [List.map_toArray, List.map_cons, List.map_nil]); first | done | rfl | (simp only [List.length_drop, List.length_take]; rfl)) ?_; (with_reducible refine (zaE.calls k a2 _ _ A6.out).mono ?_); rintro e w' ⟨rfl, ⟨nd, rfl⟩⟩; refine ⟨_, rfl, ?_⟩; have hczq4_0 : wq3.cell? ⟨gb346, 0, none⟩ = some (.slice A0_0 l0_0.length c0_0) := (zah BK346.out 0).trans rfl; have hfzq4_0 := zaf BK346.out 0) | ((with_reducible refine zaW (f := 66) rfl ?_); refine zbE (some 24) rfl rfl Try.func66 (by kernel_rfl) rfl #[.agg #[.slice A0_0 l0_0.length c0_0], .int .i64 a1, .string a2] rfl (by (try simp only [List.map_toArray, List.map_cons, List.map_nil]); first | done | rfl | (simp only [List.length_drop, List.length_take]; rfl)) ?_; (with_reducible refine (za1.calls _ _ l0_0 a1 a2 _ _ _ ?side1 ?side2 A8.out).mono ?_); (case side1 => repeat (first | exact (Kd.C_below HR0_0.out (by repeat (first | (with_reducible first | exact HB.out | apply zac | apply zab | apply zad | refine zal ?_ GE346.out) | exact HB.out))) | (with_reducible refine Kd.C_alloc ?_ _) | (with_reducible refine Kd.C_drewN ?_ _) | (with_reducible refine Kd.C_drew ?_))); (case side2 => exact HC0_0.out); rintro e wq5 ⟨rfl, hb⟩; refine ⟨_, rfl, ?_⟩; have n0_ := zaa.mk (zaq (g := gb346) (o := .cells #[.slice A0_0 l0_0.length c0_0] 24 (0, 0)) (by (with_reducible repeat (first | refine zak ?_ _ | refine zam ?_ | refine zaj ?_ _)); exact BK346.out) hb); have n1_ := zaa.mk (zai (by repeat (first | (with_reducible first | exact HB.out | apply zac | apply zab | apply zad | refine zal ?_ GE346.out) | exact HB.out)) hb); clear BK346; clear HB; have BK346 := n0_; have HB := n1_; clear n0_ n1_; (try clear hb); (try clear hb2); (try clear hk); (try clear hi); have hczq6_0 : wq5.cell? ⟨gb346, 0, none⟩ = some (.slice A0_0 l0_0.length c0_0) := (zah BK346.out 0).trans rfl; have hfzq6_0 := zaf BK346.out 0; have p351 : 0 ≤ (a1 : Int) := of_decide_eq_true (by first | (with_reducible assumption) | assumption); have q351 : a1 < (l0_0.length : Int) := of_decide_eq_true (by first | (with_reducible assumption) | assumption); obtain ⟨ad351, A351_1, c351_1, A351_2, c351_2, e351, hx351_0, hx351_1, hx351_2, hx351_3, hx351_4, hx351_5, hl351_1, hi351_1, hl351_2, hi351_2⟩ := zbn HR0_0.out a1 p351 q351; cases e351; replace hx351_0 := (HB.out.cell (World.block_lt_of_cell? w _ hx351_0)).trans hx351_0; replace hx351_1 := (HB.out.cell (World.block_lt_of_cell? w _ hx351_1)).trans hx351_1; replace hx351_2 := (HB.out.cell (World.block_lt_of_cell? w _ hx351_2)).trans hx351_2; replace hx351_3 := (HB.out.cell (World.block_lt_of_cell? w _ hx351_3)).trans hx351_3; replace hx351_4 := (HB.out.cell (World.block_lt_of_cell? w _ hx351_4)).trans hx351_4; replace hx351_5 := (HB.out.cell (World.block_lt_of_cell? w _ hx351_5)).trans hx351_5; have HR351_1 := zaa.mk hi351_1; have HC351_1 := zaa.mk hl351_1; clear hi351_1 hl351_1; have HR351_2 := zaa.mk hi351_2; have HC351_2 := zaa.mk hl351_2; clear hi351_2 hl351_2; replace p351 := eq_true p351; replace q351 := eq_true q351; have p352 : 0 ≤ (t349 : Int) := of_decide_eq_true (by first | (with_reducible assumption) | assumption); have q352 : t349 < (((zae l0_0 a1).f2).length : Int) := of_decide_eq_true (by first | (with_reducible assumption) | assumption); obtain ⟨ad352, e352, hx352_0, hx352_1⟩ := zce HR351_2.out t349 p352 q352; cases e352; replace hx352_0 := (HB.out.cell (World.block_lt_of_cell? w _ hx352_0)).trans hx352_0; replace hx352_1 := (HB.out.cell (World.block_lt_of_cell? w _ hx352_1)).trans hx352_1; replace p352 := eq_true p352; replace q352 := eq_true q352) | ((with_reducible refine zaW (f := 66) rfl ?_); refine zbE (some 24) rfl rfl Try.func66 (by kernel_rfl) rfl #[.agg #[.slice A0_0 l0_0.length c0_0], .int .i64 a1, .string a2] rfl (by (try simp only [List.map_toArray, List.map_cons, List.map_nil]); first | done | rfl | (simp only [List.length_drop, List.length_take]; rfl)) ?_; (with_reducible refine (za1.calls _ _ l0_0 a1 a2 _ _ _ ?side1 ?side2 A8.out).mono ?_); (case side1 => repeat (first | exact (Kd.C_below HR0_0.out (by repeat (first | (with_reducible first | exact HB.out | apply zac | apply zab | apply zad | refine zal ?_ GE346.out) | exact HB.out))) | (with_reducible refine Kd.C_alloc ?_ _) | (with_reducible refine Kd.C_drewN ?_ _) | (with_reducible refine Kd.C_drew ?_))); (case side2 => exact HC0_0.out); rintro e wq5 ⟨rfl, hb⟩; refine ⟨_, rfl, ?_⟩; have n0_ := zaa.mk (zaq (g := gb346) (o := .cells #[.slice A0_0 l0_0.length c0_0] 24 (0, 0)) (by (with_reducible repeat (first | refine zak ?_ _ | refine zam ?_ | refine zaj ?_ _)); exact BK346.out) hb); have n1_ := zaa.mk (zai (by repeat (first | (with_reducible first | exact HB.out | apply zac | apply zab | apply zad | refine zal ?_ GE346.out) | exact HB.out)) hb); clear BK346; clear HB; have BK346 := n0_; have HB := n1_; clear n0_ n1_; (try clear hb); (try clear hb2); (try clear hk); (try clear hi)) | ((with_reducible refine zaW (f := 14) rfl ?_); refine zbE (some 16) rfl rfl Try.func14 (by kernel_rfl) rfl #[.string a2] rfl (by (try simp only [List.map_toArray, List.map_cons, List.map_nil]); first | done | rfl | (simp only [List.length_drop, List.length_take]; rfl)) ?_; (with_reducible refine (zaE.calls k a2 _ _ A6.out).mono ?_); rintro e w' ⟨rfl, ⟨nd, rfl⟩⟩; refine ⟨_, rfl, ?_⟩))
  go_ret2
  exact ⟨by first | rfl | (simp [zas, zar] <;> rfl) | (simp [*, zas, zar] <;> rfl), by repeat (first | (with_reducible first | exact HB.out | apply zac | apply zab | apply zad | refine zal ?_ GE346.out) | exact HB.out)⟩
set_option maxHeartbeats 1000000 in
set_option maxRecDepth 100000 in
theorem zba.fn (g : Nat) (d : Int) (x : S66) (w : World) (hg : w.cell? ⟨g, 0, none⟩ = some (.int .i64 d)) :
  Calls Try.prog 85 #[.agg #[.string x.f0, .int .i64 x.f1], .pointer (some ⟨g, 0, none⟩)] w fun e w' => e = .returned (.bool (x.f1 == d)) ∧ Below w.heap.size w w' := by
 have hu := Try.underlying66
 have hlt : g < w.heap.size := World.block_lt_of_cell? w _ hg
 have hg' := ((zac (Below.refl w.heap.size w) (.cells #[.string x.f0, .int .i64 x.f1] 66)).cell hlt).trans hg
 clear hg
 go_enter Try.func85, Try.ntmps85
 go_wp2
 go_ret
 exact ⟨rfl, zac (Below.refl _ _) _⟩
def toAt (d : Int) : List S66 → Int → Int
 | [], _ => -1
 | x :: r, i => if x.f1 == d then i else toAt d r (i + 1)
theorem toAt_any (d : Int) : ∀ (ns : List S66) (i : Int), 0 ≤ i → (decide (toAt d ns i ≥ 0)) = ns.any fun x => x.f1 == d
 | [], _, _ => rfl
 | x :: r, i, h => by
  unfold toAt
  cases hb : x.f1 == d
  ·simpa [hb] using toAt_any d r (i + 1) (by omega)
  ·simp [hb, h]
theorem toAt_drop (d : Int) (ns : List S66) (i : Nat) (h : i < ns.length) : toAt d (ns.drop i) i = if (zat ns i).f1 == d then (i : Int) else toAt d (ns.drop (i + 1)) ((i + 1 : Nat) : Int) := by
 rw [List.drop_eq_getElem_cons h]
 have e : zat ns (i : Int) = ns[i] := by simp [zat, List.getD, List.getElem?_eq_getElem h]
 rw [toAt, e]; rfl
set_option maxHeartbeats 1000000 in
set_option maxRecDepth 100000 in
theorem zba.index (g : Nat) (d : Int) (A1 : Option Addr) (c1 : Nat) (ns : List S66) (w : World) (hg : w.cell? ⟨g, 0, none⟩ = some (.int .i64 d)) (hr1 : Kd.C k66 w A1 ns.length ns) (hc1 : ns.length ≤ c1) :
  Calls Try.prog 89 #[.slice A1 ns.length c1, .func (.func 85) #[] #[.pointer (some ⟨g, 0, none⟩)]] w fun e w' => e = .returned (.int .i64 (toAt d ns 0)) ∧ Below w.heap.size w w' := by
 have HR1 := zaa.mk hr1
 have HG := zaa.mk hg
 have HM := zaa.mk hr1.2.1
 have hu := Try.underlying66
 clear hg hr1 hc1
 go_enter Try.func89, Try.ntmps89
 go_wp2
 go_loopw [8] (fun v8 w' => ∃ i : Nat, i ≤ ns.length ∧ v8 = .int .i64 i ∧ zaa (toAt d ns 0 = toAt d (ns.drop i) i) ∧ zaa (Below w.heap.size w w')) (fun v8 _ => ns.length - (intOf v8).toNat)
 case atStart => exact ⟨0, Nat.zero_le _, rfl, ⟨rfl⟩, ⟨Below.refl _ _⟩⟩
 case round =>
  obtain ⟨i, hi, rfl, HE, HB⟩ := hrel
  have hmax := HM.out
  by_cases hlt : i < ns.length
  ·obtain ⟨ad, rfl, hx0, hx1⟩ := zce HR1.out (i : Int) (by omega) (by omega)
   replace hx0 := (HB.out.cell (World.block_lt_of_cell? w _ hx0)).trans hx0
   replace hx1 := (HB.out.cell (World.block_lt_of_cell? w _ hx1)).trans hx1
   rw [Int.toNat_natCast] at hx0 hx1
   have hd := toAt_drop d ns i hlt
   have F := fun w' h1 => zba.fn g d (zat ns i) w' h1
   cases hb : (zat ns i).f1 == d
   all_goals
    rw [hb] at hd F
    have HD := zaa.mk hd
    have HF := zaa.mk F
    clear hd F hb
    go_wp2_with (first | (go_at_call 85; refine (HF.out _ ((HB.out.cell (World.block_lt_of_cell? w _ HG.out)).trans HG.out)).mono ?_; rintro e w1 ⟨rfl, hb⟩; have HB1 := zaa.mk (zai HB.out hb); clear hb))
   ·go_roundw
    case rel => exact ⟨i + 1, by omega, by go_num, ⟨by rw [HE.out, HD.out]; rfl⟩, HB1⟩
    case measure => simp [intOf]; omega
   ·go_ret
    exact ⟨by rw [HE.out, HD.out]; rfl, HB1.out⟩
  ·go_wp2
   go_ret
   exact ⟨by rw [HE.out, List.drop_eq_nil_of_le (by omega)]; rfl, HB.out⟩
set_option maxHeartbeats 1000000 in
set_option maxRecDepth 100000 in
theorem zba.contains (g : Nat) (d : Int) (A1 : Option Addr) (c1 : Nat) (ns : List S66) (w : World) (hg : w.cell? ⟨g, 0, none⟩ = some (.int .i64 d)) (hr1 : Kd.C k66 w A1 ns.length ns) (hc1 : ns.length ≤ c1) :
  Calls Try.prog 86 #[.slice A1 ns.length c1, .func (.func 85) #[] #[.pointer (some ⟨g, 0, none⟩)]] w fun e w' => e = .returned (.bool (ns.any fun x => x.f1 == d)) ∧ Below w.heap.size w w' := by
 have HI := zaa.mk (zba.index g d A1 c1 ns w hg hr1 hc1)
 have HA := zaa.mk (toAt_any d ns 0 (by omega))
 clear hg hr1 hc1
 go_enter Try.func86, Try.ntmps86
 go_wp2_with (first | (go_at_call 89; refine HI.out.mono ?_; rintro e w1 ⟨rfl, hb⟩))
 go_ret
 exact ⟨by show Ending.returned (.bool (decide (0 ≤ toAt d ns 0))) = _; rw [← HA.out], hb⟩
def above (d : Int) : List S45 → Int → Int × Int
 | [], _ => (0, 44)
 | x :: r, i => if x.f2.any (fun n => n.f1 == d) then (i, 0) else above d r (i + 1)
theorem above_drop (d : Int) (l : List S45) (i : Nat) (h : i < l.length) : above d (l.drop i) i = if (zae l i).f2.any (fun n => n.f1 == d) then ((i : Int), 0) else above d (l.drop (i + 1)) ((i + 1 : Nat) : Int) := by
 rw [List.drop_eq_getElem_cons h]
 have e : zae l (i : Int) = l[i] := by simp [zae, List.getD, List.getElem?_eq_getElem h]
 rw [above, e]; rfl
def zba.W (w : World) (A : Option Addr) (n c : Nat) (d : Int) : World := (w.alloc (.cells #[.slice A n c] 24)).alloc (.cells #[.int .i64 d] 3)
theorem zba.W_below (w : World) (A : Option Addr) (n c : Nat) (d : Int) : Below w.heap.size w (zba.W w A n c d) := zac (zac (Below.refl _ _) _) _
theorem zba.W_cell (w : World) (A : Option Addr) (n c : Nat) (d : Int) : (zba.W w A n c d).cell? ⟨w.heap.size + 1, 0, none⟩ = some (.int .i64 d) := by
 have h := zbC (w.alloc (.cells #[.slice A n c] 24)) (.cells #[.int .i64 d] 3)
 rw [World.size_alloc] at h
 exact (zah h 0).trans rfl
def zba.f (l0_0 : List S45) (a1 : Int) : Option (Int × Int) := if a1 = 0 then some (0, 0) else some (above a1 l0_0 0)
set_option maxHeartbeats 2000000 in
set_option maxRecDepth 100000 in
theorem zba.calls (A0_0 : Option Addr) (c0_0 : Nat) (l0_0 : List S45) (a1 : Int) (r1 : Int) (r2 : Int) (w : World) (hr0_0 : Kd.C k45 w A0_0 l0_0.length l0_0) (hc0_0 : l0_0.length ≤ c0_0) (h : zba.f l0_0 a1 = some (r1, r2)) :
  Calls Try.prog 82 #[.agg #[.slice A0_0 l0_0.length c0_0], .int .i64 a1] w fun e w' => e = .returned (.tuple #[.int .i64 r1, .int .i64 r2]) ∧ Below w.heap.size w w' := by
 unfold zba.f at h
 have HR := zaa.mk hr0_0
 have HC := zaa.mk hc0_0
 have HM := zaa.mk hr0_0.2.1
 have hu := Try.underlying24
 have hun := Try.underlying45
 have hmf : ∀ (fn : Fn) (first cap : Array Value) (w : World), (Instr.makeFunc fn first cap).run Try.prog w = .ok (.func fn first cap) w := fun _ _ _ _ => rfl
 clear hr0_0 hc0_0
 by_cases h0 : a1 = 0
 ·rw [if_pos h0] at h
  simp only [Option.some.injEq, Prod.mk.injEq] at h
  obtain ⟨rfl, rfl⟩ := h
  subst h0
  go_enter Try.func82, Try.ntmps82
  go_wp2
  go_ret2
  exact ⟨rfl, zac (zac (Below.refl _ _) _) _⟩
 ·rw [if_neg h0] at h
  have HH := zaa.mk (Option.some.inj h)
  have h0' : (a1 == 0) = false := by simpa using h0
  clear h h0
  go_enter Try.func82, Try.ntmps82
  go_wp2
  go_loopw [15] (fun v15 w' => ∃ i : Nat, i ≤ l0_0.length ∧ v15 = .int .i64 i ∧ zaa (above a1 l0_0 0 = above a1 (l0_0.drop i) i) ∧ zaa (Below (zba.W w A0_0 l0_0.length c0_0 a1).heap.size (zba.W w A0_0 l0_0.length c0_0 a1) w')) (fun v15 _ => l0_0.length - (intOf v15).toNat)
  case atStart => exact ⟨0, Nat.zero_le _, rfl, ⟨rfl⟩, ⟨Below.refl _ _⟩⟩
  case round =>
   obtain ⟨i, hi, rfl, HE, HB⟩ := hrel
   have hmax := HM.out
   have HB0 := zaa.mk (zai (zba.W_below w A0_0 l0_0.length c0_0 a1) HB.out)
   have HD := zaa.mk ((HB.out.cell (World.block_lt_of_cell? _ _ (zba.W_cell w A0_0 l0_0.length c0_0 a1))).trans (zba.W_cell w A0_0 l0_0.length c0_0 a1))
   by_cases hlt : i < l0_0.length
   ·obtain ⟨ad, A1, c1, A2, c2, rfl, hx0, hx1, hx2, hx3, hx4, hx5, hl1, hi1, hl2, hi2⟩ := zbn HR.out (i : Int) (by omega) (by omega)
    replace hx0 := (HB0.out.cell (World.block_lt_of_cell? w _ hx0)).trans hx0
    replace hx1 := (HB0.out.cell (World.block_lt_of_cell? w _ hx1)).trans hx1
    replace hx2 := (HB0.out.cell (World.block_lt_of_cell? w _ hx2)).trans hx2
    replace hx3 := (HB0.out.cell (World.block_lt_of_cell? w _ hx3)).trans hx3
    replace hx4 := (HB0.out.cell (World.block_lt_of_cell? w _ hx4)).trans hx4
    replace hx5 := (HB0.out.cell (World.block_lt_of_cell? w _ hx5)).trans hx5
    rw [Int.toNat_natCast] at hx0 hx1 hx2 hx3 hx4 hx5
    have HI2 := zaa.mk hi2
    have HL2 := zaa.mk hl2
    have hd := above_drop a1 l0_0 i hlt
    have F := fun w' (hb : Below wr.heap.size wr w') => zba.contains (w.heap.size + 1) a1 A2 c2 (zae l0_0 i).f2 w' ((hb.cell (World.block_lt_of_cell? _ _ HD.out)).trans HD.out) (Kd.C_below HI2.out (zai HB0.out hb)) HL2.out
    clear hi1 hl1 hi2 hl2
    cases hb : (zae l0_0 i).f2.any (fun n => n.f1 == a1)
    all_goals
     rw [hb] at hd F
     have HDD := zaa.mk hd
     have HF := zaa.mk F
     clear hd F hb
     go_wp2_with (first | (go_at_call 86; refine (HF.out _ (zac (Below.refl _ _) _)).mono ?_; rintro e w1 ⟨rfl, hb⟩; have HB1 := zaa.mk (zai (zac HB.out _) hb); clear hb))
    ·go_roundw
     case rel => exact ⟨i + 1, by omega, by go_num, ⟨by rw [HE.out, HDD.out]; rfl⟩, HB1⟩
     case measure => simp [intOf]; omega
    ·go_ret2
     have := HH.out
     rw [HE.out, HDD.out] at this
     obtain ⟨rfl, rfl⟩ := Prod.mk.inj this
     exact ⟨rfl, zai (zba.W_below _ _ _ _ _) HB1.out⟩
   ·go_wp2
    go_ret2
    have := HH.out
    rw [HE.out, List.drop_eq_nil_of_le (by omega)] at this
    obtain ⟨rfl, rfl⟩ := Prod.mk.inj this
    exact ⟨rfl, HB0.out⟩
def zbg.l0 : Nat → Int → Int → List (S45) → Option (Bool)
 | 0, _, _, _ => none
 | k + 1, x1, x2, x365000 => if x1 = x2 then (some true) else ((zba.f x365000 x1).bind fun bt365 => (if bt365.2 = 0 then (if x1 = 0 then (some false) else (zbg.l0 k bt365.1 x2 x365000)) else (some false)))
def zbg.f (k : Nat) (l0_0 : List (S45)) (a1 : Int) (a2 : Int) : Option (Bool) := zbg.l0 k a1 a2 l0_0
set_option maxHeartbeats 8000000 in
set_option maxRecDepth 100000 in
theorem zbg.calls (k : Nat) (A0_0 : Option Addr) (c0_0 : Nat) (l0_0 : List (S45)) (a1 : Int) (a2 : Int) (r : Bool) (w : World) (hr0_0 : Kd.C k45 w A0_0 l0_0.length l0_0) (hc0_0 : l0_0.length ≤ c0_0) (h : zbg.f k l0_0 a1 a2 = some r) :
  Calls Try.prog 68 #[.agg #[.slice A0_0 l0_0.length c0_0], .int .i64 a1, .int .i64 a2] w fun e w' => e = .returned (.bool r) ∧ Below w.heap.size w w' := by
 have hu24 := Try.underlying24
 have HR0_0 := zaa.mk hr0_0
 have HC0_0 := zaa.mk hc0_0
 clear hr0_0 hc0_0
 have HB := zaa.mk (Below.refl w.heap.size w)
 have H : (zbg.l0 k a1 a2 l0_0) = some r := h
 clear h
 have H' := zaa.mk H
 clear H
 go_enter Try.func68, Try.ntmps68
 go_wp2_with (first | ((with_reducible refine zaT (N := 3) rfl ?_); refine zaN ?hg (N := 3) ?hd (cs := #[.slice A0_0 l0_0.length c0_0]) (t := 24) ?hr ?_; (case hd => rfl); (case hg => rfl); (case hr => first | (go_simp; done) | (go_simp; rfl)); intro gb364 hg w4 hbox hb; have n0_ := zaa.mk (zai (by repeat (first | (with_reducible first | exact HB.out | apply zac | apply zab | apply zad) | exact HB.out)) hb); have n1_ := zaa.mk (hbox); have n2_ := zaa.mk ((by rw [hg]; exact (zao (by repeat (first | (with_reducible first | exact HB.out | apply zac | apply zab | apply zad) | exact HB.out))) : w.heap.size ≤ gb364)); have n3_ := zaa.mk ((by rw [hg]; exact (zao (by repeat (first | (with_reducible first | exact HB.out | apply zac | apply zab | apply zad) | exact HB.out))) : w.heap.size ≤ gb364)); clear HB; have HB := n0_; have BK364 := n1_; have GW364 := n2_; have GE364 := n3_; clear n0_ n1_ n2_ n3_; clear hb hbox hg))
 go_loopg [1] k (fun kq v1 w' => ∃ (x1_1 : Int), v1 = .int .i64 x1_1 ∧ zaa (zbg.l0 kq x1_1 a2 l0_0 = some r) ∧ zaa (kq ≤ k) ∧ zaa (w'.heap[gb364]? = some (.cells #[(.slice A0_0 l0_0.length c0_0)] 24 (0, 0))) ∧ zaa (Below w.heap.size w w'))
 case atStart => exact ⟨(a1), (by first | rfl | (simp; done) | (simp [*]; done)), H', ⟨Nat.le_refl _⟩, ⟨by (with_reducible repeat (first | refine zak ?_ _ | refine zam ?_ | refine zaj ?_ _)); exact BK364.out⟩, ⟨by repeat (first | (with_reducible first | exact HB.out | apply zac | apply zab | apply zad | refine zal ?_ GE364.out) | exact HB.out)⟩⟩
 case round =>
  clear H'
  try clear p2
  obtain ⟨x1_1, rfl, HA, HK1, BK364, HB⟩ := hrel
  cases gk with
  | zero => exact absurd HA.out (by simp [zbg.l0])
  | succ k1 =>
   have H := HA.out
   clear HA
   simp only [zbg.l0] at H
   by_cases c5 : x1_1 = a2
   ·rw [if_pos c5] at H
    have c5b0 : (x1_1 == a2) = true := beq_iff_eq.mpr c5
    have c5b1 : (x1_1 != a2) = false := bne_eq_false_iff_eq.mpr c5
    clear c5
    obtain rfl := Option.some.inj H
    go_wp2
    go_ret
    exact ⟨by first | rfl | (simp [zas, zar] <;> rfl) | (simp [*, zas, zar] <;> rfl), by repeat (first | (with_reducible first | exact HB.out | apply zac | apply zab | apply zad | refine zal ?_ GE364.out) | exact HB.out)⟩
   ·rw [if_neg c5] at H
    have c5b0 : (x1_1 == a2) = false := beq_eq_false_iff_ne.mpr c5
    have c5b1 : (x1_1 != a2) = true := bne_iff_ne.mpr c5
    replace H := Option.bind_eq_some_iff.mp H
    obtain ⟨⟨t365, t366⟩, A60, H⟩ := H
    replace H : (if t366 = 0 then (if x1_1 = 0 then (some false) else (zbg.l0 k1 t365 a2 l0_0)) else (some false)) = some r := H
    have A6 := zaa.mk A60
    clear A60
    by_cases c7 : t366 = 0
    ·rw [if_pos c7] at H
     have c7b0 : (t366 == 0) = true := beq_iff_eq.mpr c7
     have c7b1 : (t366 != 0) = false := bne_eq_false_iff_eq.mpr c7
     clear c7
     by_cases c8 : x1_1 = 0
     ·rw [if_pos c8] at H
      have c8b0 : (x1_1 == 0) = true := beq_iff_eq.mpr c8
      have c8b1 : (x1_1 != 0) = false := bne_eq_false_iff_eq.mpr c8
      clear c8
      obtain rfl := Option.some.inj H
      have hcz9_0 : wr.cell? ⟨gb364, 0, none⟩ = some (.slice A0_0 l0_0.length c0_0) := (zah BK364.out 0).trans rfl
      have hfz9_0 := zaf BK364.out 0
      go_wp2_with (first | ((with_reducible refine zaW (f := 82) rfl ?_); refine zbE (some 15) rfl rfl Try.func82 (by kernel_rfl) rfl #[.agg #[.slice A0_0 l0_0.length c0_0], .int .i64 x1_1] rfl (by (try simp only [List.map_toArray, List.map_cons, List.map_nil]); first | done | rfl | (simp only [List.length_drop, List.length_take]; rfl)) ?_; (with_reducible refine (zba.calls _ _ l0_0 x1_1 t365 t366 _ ?side1 ?side2 A6.out).mono ?_); (case side1 => repeat (first | exact (Kd.C_below HR0_0.out HB.out) | (with_reducible refine Kd.C_alloc ?_ _) | (with_reducible refine Kd.C_drewN ?_ _) | (with_reducible refine Kd.C_drew ?_))); (case side2 => exact HC0_0.out); rintro e w10 ⟨rfl, hb⟩; refine ⟨_, rfl, ?_⟩; have n0_ := zaa.mk (zaq (g := gb364) (o := .cells #[.slice A0_0 l0_0.length c0_0] 24 (0, 0)) (by (with_reducible repeat (first | refine zak ?_ _ | refine zam ?_ | refine zaj ?_ _)); exact BK364.out) hb); have n1_ := zaa.mk (zai (by repeat (first | (with_reducible first | exact HB.out | apply zac | apply zab | apply zad | refine zal ?_ GE364.out) | exact HB.out)) hb); clear BK364; clear HB; have BK364 := n0_; have HB := n1_; clear n0_ n1_; (try clear hb); (try clear hb2); (try clear hk); (try clear hi)))
      go_ret
      exact ⟨by first | rfl | (simp [zas, zar] <;> rfl) | (simp [*, zas, zar] <;> rfl), by repeat (first | (with_reducible first | exact HB.out | apply zac | apply zab | apply zad | refine zal ?_ GE364.out) | exact HB.out)⟩
     ·rw [if_neg c8] at H
      have c8b0 : (x1_1 == 0) = false := beq_eq_false_iff_ne.mpr c8
      have c8b1 : (x1_1 != 0) = true := bne_iff_ne.mpr c8
      have H' := zaa.mk H
      clear H
      have hcz11_0 : wr.cell? ⟨gb364, 0, none⟩ = some (.slice A0_0 l0_0.length c0_0) := (zah BK364.out 0).trans rfl
      have hfz11_0 := zaf BK364.out 0
      go_wp2_with (first | ((with_reducible refine zaW (f := 82) rfl ?_); refine zbE (some 15) rfl rfl Try.func82 (by kernel_rfl) rfl #[.agg #[.slice A0_0 l0_0.length c0_0], .int .i64 x1_1] rfl (by (try simp only [List.map_toArray, List.map_cons, List.map_nil]); first | done | rfl | (simp only [List.length_drop, List.length_take]; rfl)) ?_; (with_reducible refine (zba.calls _ _ l0_0 x1_1 t365 t366 _ ?side1 ?side2 A6.out).mono ?_); (case side1 => repeat (first | exact (Kd.C_below HR0_0.out HB.out) | (with_reducible refine Kd.C_alloc ?_ _) | (with_reducible refine Kd.C_drewN ?_ _) | (with_reducible refine Kd.C_drew ?_))); (case side2 => exact HC0_0.out); rintro e w12 ⟨rfl, hb⟩; refine ⟨_, rfl, ?_⟩; have n0_ := zaa.mk (zaq (g := gb364) (o := .cells #[.slice A0_0 l0_0.length c0_0] 24 (0, 0)) (by (with_reducible repeat (first | refine zak ?_ _ | refine zam ?_ | refine zaj ?_ _)); exact BK364.out) hb); have n1_ := zaa.mk (zai (by repeat (first | (with_reducible first | exact HB.out | apply zac | apply zab | apply zad | refine zal ?_ GE364.out) | exact HB.out)) hb); clear BK364; clear HB; have BK364 := n0_; have HB := n1_; clear n0_ n1_; (try clear hb); (try clear hb2); (try clear hk); (try clear hi)))
      go_roundg k1
      case measure => have := HK1.out; omega
      case rel => exact ⟨(t365), (by first | rfl | (simp; done) | (simp [*]; done)), H', ⟨by have := HK1.out; omega⟩, ⟨by (with_reducible repeat (first | refine zak ?_ _ | refine zam ?_ | refine zaj ?_ _)); exact BK364.out⟩, ⟨by repeat (first | (with_reducible first | exact HB.out | apply zac | apply zab | apply zad | refine zal ?_ GE364.out) | exact HB.out)⟩⟩
    ·rw [if_neg c7] at H
     have c7b0 : (t366 == 0) = false := beq_eq_false_iff_ne.mpr c7
     have c7b1 : (t366 != 0) = true := bne_iff_ne.mpr c7
     obtain rfl := Option.some.inj H
     have hcz13_0 : wr.cell? ⟨gb364, 0, none⟩ = some (.slice A0_0 l0_0.length c0_0) := (zah BK364.out 0).trans rfl
     have hfz13_0 := zaf BK364.out 0
     go_wp2_with (first | ((with_reducible refine zaW (f := 82) rfl ?_); refine zbE (some 15) rfl rfl Try.func82 (by kernel_rfl) rfl #[.agg #[.slice A0_0 l0_0.length c0_0], .int .i64 x1_1] rfl (by (try simp only [List.map_toArray, List.map_cons, List.map_nil]); first | done | rfl | (simp only [List.length_drop, List.length_take]; rfl)) ?_; (with_reducible refine (zba.calls _ _ l0_0 x1_1 t365 t366 _ ?side1 ?side2 A6.out).mono ?_); (case side1 => repeat (first | exact (Kd.C_below HR0_0.out HB.out) | (with_reducible refine Kd.C_alloc ?_ _) | (with_reducible refine Kd.C_drewN ?_ _) | (with_reducible refine Kd.C_drew ?_))); (case side2 => exact HC0_0.out); rintro e w14 ⟨rfl, hb⟩; refine ⟨_, rfl, ?_⟩; have n0_ := zaa.mk (zaq (g := gb364) (o := .cells #[.slice A0_0 l0_0.length c0_0] 24 (0, 0)) (by (with_reducible repeat (first | refine zak ?_ _ | refine zam ?_ | refine zaj ?_ _)); exact BK364.out) hb); have n1_ := zaa.mk (zai (by repeat (first | (with_reducible first | exact HB.out | apply zac | apply zab | apply zad | refine zal ?_ GE364.out) | exact HB.out)) hb); clear BK364; clear HB; have BK364 := n0_; have HB := n1_; clear n0_ n1_; (try clear hb); (try clear hb2); (try clear hk); (try clear hi)))
     go_ret
     exact ⟨by first | rfl | (simp [zas, zar] <;> rfl) | (simp [*, zas, zar] <;> rfl), by repeat (first | (with_reducible first | exact HB.out | apply zac | apply zab | apply zad | refine zal ?_ GE364.out) | exact HB.out)⟩
mutual
def zaU.j0 : Nat → Int → Bool → Bool → List (S45) → Option (Int)
 | 0, _, _, _, _ => none
 | k + 1, x1, x2, x7, x361000 => if x7 = true then (some 54) else (if x2 = true then (if 0 ≤ x1 then (if x1 < (x361000.length : Int) then (zaU.j1 k x1 x2 (decide ((((zae x361000 x1).f2).length : Int) > 0)) x361000) else (none)) else (none)) else (zaU.j1 k x1 x2 false x361000))
def zaU.j1 : Nat → Int → Bool → Bool → List (S45) → Option (Int)
 | 0, _, _, _, _ => none
 | k + 1, x1, x2, x15, x361000 => if x15 = true then (some 55) else (if x2 = true then (some 0) else ((zbo.f x361000 x1).bind fun t363 => (if t363 = true then (some 31) else (some 0))))
end
def zaU.f (k : Nat) (l0_0 : List (S45)) (a1 : Int) (a2 : Bool) : Option (Int) := if a2 = true then ((zbo.f l0_0 a1).bind fun t361 => (zaU.j0 k a1 a2 (!t361) l0_0)) else (zaU.j0 k a1 a2 false l0_0)
set_option maxHeartbeats 8000000 in
set_option maxRecDepth 100000 in
theorem zaU.calls (k : Nat) (A0_0 : Option Addr) (c0_0 : Nat) (l0_0 : List (S45)) (a1 : Int) (a2 : Bool) (r : Int) (w : World) (hr0_0 : Kd.C k45 w A0_0 l0_0.length l0_0) (hc0_0 : l0_0.length ≤ c0_0) (h : zaU.f k l0_0 a1 a2 = some r) :
  Calls Try.prog 57 #[.agg #[.slice A0_0 l0_0.length c0_0], .int .i64 a1, .bool a2] w fun e w' => e = .returned (.int .i64 r) ∧ Below w.heap.size w w' := by
 have hu24 := Try.underlying24
 have HR0_0 := zaa.mk hr0_0
 have HC0_0 := zaa.mk hc0_0
 clear hr0_0 hc0_0
 have HB := zaa.mk (Below.refl w.heap.size w)
 have H : (if a2 = true then ((zbo.f l0_0 a1).bind fun t361 => (zaU.j0 k a1 a2 (!t361) l0_0)) else (zaU.j0 k a1 a2 false l0_0)) = some r := h
 clear h
 have HC4 := zaa.mk H
 clear H
 go_enter Try.func57, Try.ntmps57
 go_upto_region 1 with (first | ((with_reducible refine zaT (N := 3) rfl ?_); (try (refine zbB (by rfl) ?_; dsimp only)); refine zaN ?hg (N := 3) ?hd (cs := #[.slice A0_0 l0_0.length c0_0]) (t := 24) ?hr ?_; (case hd => rfl); (case hg => rfl); (case hr => first | (go_simp; done) | (go_simp; rfl)); intro gb360 hg w5 hbox hb; have n0_ := zaa.mk (zai (by repeat (first | (with_reducible first | exact HB.out | apply zac | apply zab | apply zad) | exact HB.out)) hb); have n1_ := zaa.mk (hbox); have n2_ := zaa.mk ((by rw [hg]; exact (zao (by repeat (first | (with_reducible first | exact HB.out | apply zac | apply zab | apply zad) | exact HB.out))) : w.heap.size ≤ gb360)); have n3_ := zaa.mk ((by rw [hg]; exact (zao (by repeat (first | (with_reducible first | exact HB.out | apply zac | apply zab | apply zad) | exact HB.out))) : w.heap.size ≤ gb360)); clear HB; have HB := n0_; have BK360 := n1_; have GW360 := n2_; have GE360 := n3_; clear n0_ n1_ n2_ n3_; clear hb hbox hg))
 (try simp only [Act.put, List.setIfInBounds_toArray, List.set_cons_zero, List.set_cons_succ])
 go_cut [7] (fun v7 wc => ∃ (kq : Nat) (x7_3 : Bool), v7 = .bool x7_3 ∧ zaa (zaU.j0 kq a1 a2 x7_3 l0_0 = some r) ∧ zaa (kq ≤ k) ∧ zaa (wc.heap[gb360]? = some (.cells #[(.slice A0_0 l0_0.length c0_0)] 24 (0, 0))) ∧ zaa (Below w.heap.size w wc))
 case first =>
  have H := HC4.out
  clear HC4
  by_cases c6 : a2 = true
  ·subst c6
   have H1 : ((zbo.f l0_0 a1).bind fun t361 => (zaU.j0 k a1 true (!t361) l0_0)) = some r := by rw [if_pos rfl] at H; exact H
   clear H
   have H := H1
   clear H1
   replace H := Option.bind_eq_some_iff.mp H
   obtain ⟨t361, A70, H⟩ := H
   replace H : (zaU.j0 k a1 true (!t361) l0_0) = some r := H
   have A7 := zaa.mk A70
   clear A70
   have H' := zaa.mk H
   clear H
   have hcz8_0 : w5.cell? ⟨gb360, 0, none⟩ = some (.slice A0_0 l0_0.length c0_0) := (zah BK360.out 0).trans rfl
   have hfz8_0 := zaf BK360.out 0
   go_wp2_with (first | (go_at_call 56; (with_reducible refine (zbo.calls _ _ l0_0 a1 t361 _ ?side1 ?side2 A7.out).mono ?_); (case side1 => repeat (first | exact (Kd.C_below HR0_0.out HB.out) | (with_reducible refine Kd.C_alloc ?_ _) | (with_reducible refine Kd.C_drewN ?_ _) | (with_reducible refine Kd.C_drew ?_))); (case side2 => exact HC0_0.out); rintro e w9 ⟨rfl, hb⟩; have n0_ := zaa.mk (zaq (g := gb360) (o := .cells #[.slice A0_0 l0_0.length c0_0] 24 (0, 0)) (by (with_reducible repeat (first | refine zak ?_ _ | refine zam ?_ | refine zaj ?_ _)); exact BK360.out) hb); have n1_ := zaa.mk (zai (by repeat (first | (with_reducible first | exact HB.out | apply zac | apply zab | apply zad | refine zal ?_ GE360.out) | exact HB.out)) hb); clear BK360; clear HB; have BK360 := n0_; have HB := n1_; clear n0_ n1_; (try clear hb); (try clear hb2); (try clear hk); (try clear hi)))
   go_meet
   case rel => exact ⟨_, (!t361), (by first | rfl | (simp; done) | (simp [*]; done)), H', ⟨by first | omega | exact Nat.le_refl _⟩, ⟨by (with_reducible repeat (first | refine zak ?_ _ | refine zam ?_ | refine zaj ?_ _)); exact BK360.out⟩, ⟨by repeat (first | (with_reducible first | exact HB.out | apply zac | apply zab | apply zad | refine zal ?_ GE360.out) | exact HB.out)⟩⟩
  ·replace c6 := Bool.eq_false_iff.mpr c6
   subst c6
   have H1 : (zaU.j0 k a1 false false l0_0) = some r := by rw [if_neg (show ¬ (false = true) by decide)] at H; exact H
   clear H
   have H := H1
   clear H1
   have H' := zaa.mk H
   clear H
   go_wp2
   go_meet
   case rel => exact ⟨_, (false), (by first | rfl | (simp; done) | (simp [*]; done)), H', ⟨by first | omega | exact Nat.le_refl _⟩, ⟨by (with_reducible repeat (first | refine zak ?_ _ | refine zam ?_ | refine zaj ?_ _)); exact BK360.out⟩, ⟨by repeat (first | (with_reducible first | exact HB.out | apply zac | apply zab | apply zad | refine zal ?_ GE360.out) | exact HB.out)⟩⟩
 case rest =>
  clear HC4
  try clear p2
  try clear c5
  try clear c6
  try clear hcz8_0
  try clear hfz8_0
  obtain ⟨kq, x7_3, rfl, HA, HJ3, BK360, HB⟩ := hcut
  cases kq with
  | zero => exact absurd HA.out (by simp [zaU.j0])
  | succ kj3 =>
   have H := HA.out
   clear HA
   simp only [zaU.j0] at H
   by_cases c10 : x7_3 = true
   ·subst c10
    have H1 : (some 54) = some r := by rw [if_pos rfl] at H; exact H
    clear H
    have H := H1
    clear H1
    obtain rfl := Option.some.inj H
    go_wp2
    go_ret
    exact ⟨by first | rfl | (simp [zas, zar] <;> rfl) | (simp [*, zas, zar] <;> rfl), by repeat (first | (with_reducible first | exact HB.out | apply zac | apply zab | apply zad | refine zal ?_ GE360.out) | exact HB.out)⟩
   ·replace c10 := Bool.eq_false_iff.mpr c10
    subst c10
    have H1 : (if a2 = true then (if 0 ≤ a1 then (if a1 < (l0_0.length : Int) then (zaU.j1 kj3 a1 a2 (decide ((((zae l0_0 a1).f2).length : Int) > 0)) l0_0) else (none)) else (none)) else (zaU.j1 kj3 a1 a2 false l0_0)) = some r := by rw [if_neg (show ¬ (false = true) by decide)] at H; exact H
    clear H
    have H := H1
    clear H1
    have HC11 := zaa.mk H
    clear H
    go_upto_region 3 with (fail)
    go_cut [15] (fun v15 wc => ∃ (kq : Nat) (x15_10 : Bool), v15 = .bool x15_10 ∧ zaa (zaU.j1 kq a1 a2 x15_10 l0_0 = some r) ∧ zaa (kq ≤ kj3) ∧ zaa (wc.heap[gb360]? = some (.cells #[(.slice A0_0 l0_0.length c0_0)] 24 (0, 0))) ∧ zaa (Below w.heap.size w wc))
    case first =>
     have H := HC11.out
     clear HC11
     by_cases c12 : a2 = true
     ·subst c12
      have H1 : (if 0 ≤ a1 then (if a1 < (l0_0.length : Int) then (zaU.j1 kj3 a1 true (decide ((((zae l0_0 a1).f2).length : Int) > 0)) l0_0) else (none)) else (none)) = some r := by rw [if_pos rfl] at H; exact H
      clear H
      have H := H1
      clear H1
      by_cases c13 : 0 ≤ a1
      ·rw [if_pos c13] at H
       have c13b0 : decide (0 ≤ a1) = true := decide_eq_true c13
       clear c13
       (first | rw [c13b0] | (simp only [zbq, zbv]; rw [c13b0]) | skip)
       by_cases c14 : a1 < (l0_0.length : Int)
       ·rw [if_pos c14] at H
        have c14b0 : decide (a1 < (l0_0.length : Int)) = true := decide_eq_true c14
        clear c14
        have H' := zaa.mk H
        clear H
        have hcz15_0 : wc.cell? ⟨gb360, 0, none⟩ = some (.slice A0_0 l0_0.length c0_0) := (zah BK360.out 0).trans rfl
        have hfz15_0 := zaf BK360.out 0
        have p362 : 0 ≤ (a1 : Int) := of_decide_eq_true (by first | (with_reducible assumption) | assumption)
        have q362 : a1 < (l0_0.length : Int) := of_decide_eq_true (by first | (with_reducible assumption) | assumption)
        obtain ⟨ad362, A362_1, c362_1, A362_2, c362_2, e362, hx362_0, hx362_1, hx362_2, hx362_3, hx362_4, hx362_5, hl362_1, hi362_1, hl362_2, hi362_2⟩ := zbn HR0_0.out a1 p362 q362
        cases e362
        replace hx362_0 := (HB.out.cell (World.block_lt_of_cell? w _ hx362_0)).trans hx362_0
        replace hx362_1 := (HB.out.cell (World.block_lt_of_cell? w _ hx362_1)).trans hx362_1
        replace hx362_2 := (HB.out.cell (World.block_lt_of_cell? w _ hx362_2)).trans hx362_2
        replace hx362_3 := (HB.out.cell (World.block_lt_of_cell? w _ hx362_3)).trans hx362_3
        replace hx362_4 := (HB.out.cell (World.block_lt_of_cell? w _ hx362_4)).trans hx362_4
        replace hx362_5 := (HB.out.cell (World.block_lt_of_cell? w _ hx362_5)).trans hx362_5
        have HR362_1 := zaa.mk hi362_1
        have HC362_1 := zaa.mk hl362_1
        clear hi362_1 hl362_1
        have HR362_2 := zaa.mk hi362_2
        have HC362_2 := zaa.mk hl362_2
        clear hi362_2 hl362_2
        replace p362 := eq_true p362
        replace q362 := eq_true q362
        go_wp2
        go_meet
        case rel => exact ⟨_, (decide ((((zae l0_0 a1).f2).length : Int) > 0)), (by first | rfl | (simp; done) | (simp [*]; done)), H', ⟨by have := HJ3.out; first | omega | exact Nat.le_refl _⟩, ⟨by (with_reducible repeat (first | refine zak ?_ _ | refine zam ?_ | refine zaj ?_ _)); exact BK360.out⟩, ⟨by repeat (first | (with_reducible first | exact HB.out | apply zac | apply zab | apply zad | refine zal ?_ GE360.out) | exact HB.out)⟩⟩
       ·rw [if_neg c14] at H
        exact absurd H (by simp)
      ·rw [if_neg c13] at H
       exact absurd H (by simp)
     ·replace c12 := Bool.eq_false_iff.mpr c12
      subst c12
      have H1 : (zaU.j1 kj3 a1 false false l0_0) = some r := by rw [if_neg (show ¬ (false = true) by decide)] at H; exact H
      clear H
      have H := H1
      clear H1
      have H' := zaa.mk H
      clear H
      go_wp2
      go_meet
      case rel => exact ⟨_, (false), (by first | rfl | (simp; done) | (simp [*]; done)), H', ⟨by have := HJ3.out; first | omega | exact Nat.le_refl _⟩, ⟨by (with_reducible repeat (first | refine zak ?_ _ | refine zam ?_ | refine zaj ?_ _)); exact BK360.out⟩, ⟨by repeat (first | (with_reducible first | exact HB.out | apply zac | apply zab | apply zad | refine zal ?_ GE360.out) | exact HB.out)⟩⟩
    case rest =>
     clear HC11
     try clear c1
     try clear p2
     try clear c3
     try clear p3
     try clear q3
     try clear hx3
     try clear c5
     try clear c6
     try clear c10
     try clear c12
     try clear c13
     try clear c13b0
     try clear c14
     try clear c14b0
     try clear hcz15_0
     try clear hcz8_0
     try clear hfz15_0
     try clear hfz8_0
     try clear hx362_0
     try clear hx362_1
     try clear hx362_2
     try clear hx362_3
     try clear hx362_4
     try clear hx362_5
     try clear p2
     try clear p362
     try clear q362
     obtain ⟨kq, x15_10, rfl, HA, HJ10, BK360, HB⟩ := hcut
     cases kq with
     | zero => exact absurd HA.out (by simp [zaU.j1])
     | succ kj10 =>
      have H := HA.out
      clear HA
      simp only [zaU.j1] at H
      by_cases c16 : x15_10 = true
      ·subst c16
       have H1 : (some 55) = some r := by rw [if_pos rfl] at H; exact H
       clear H
       have H := H1
       clear H1
       obtain rfl := Option.some.inj H
       go_wp2
       go_ret
       exact ⟨by first | rfl | (simp [zas, zar] <;> rfl) | (simp [*, zas, zar] <;> rfl), by repeat (first | (with_reducible first | exact HB.out | apply zac | apply zab | apply zad | refine zal ?_ GE360.out) | exact HB.out)⟩
      ·replace c16 := Bool.eq_false_iff.mpr c16
       subst c16
       have H1 : (if a2 = true then (some 0) else ((zbo.f l0_0 a1).bind fun t363 => (if t363 = true then (some 31) else (some 0)))) = some r := by rw [if_neg (show ¬ (false = true) by decide)] at H; exact H
       clear H
       have H := H1
       clear H1
       by_cases c17 : a2 = true
       ·subst c17
        have H1 : (some 0) = some r := by rw [if_pos rfl] at H; exact H
        clear H
        have H := H1
        clear H1
        obtain rfl := Option.some.inj H
        go_wp2
        go_ret
        exact ⟨by first | rfl | (simp [zas, zar] <;> rfl) | (simp [*, zas, zar] <;> rfl), by repeat (first | (with_reducible first | exact HB.out | apply zac | apply zab | apply zad | refine zal ?_ GE360.out) | exact HB.out)⟩
       ·replace c17 := Bool.eq_false_iff.mpr c17
        subst c17
        have H1 : ((zbo.f l0_0 a1).bind fun t363 => (if t363 = true then (some 31) else (some 0))) = some r := by rw [if_neg (show ¬ (false = true) by decide)] at H; exact H
        clear H
        have H := H1
        clear H1
        replace H := Option.bind_eq_some_iff.mp H
        obtain ⟨t363, A180, H⟩ := H
        replace H : (if t363 = true then (some 31) else (some 0)) = some r := H
        have A18 := zaa.mk A180
        clear A180
        by_cases c19 : t363 = true
        ·subst c19
         have H1 : (some 31) = some r := by rw [if_pos rfl] at H; exact H
         clear H
         have H := H1
         clear H1
         obtain rfl := Option.some.inj H
         have hcz20_0 : wc.cell? ⟨gb360, 0, none⟩ = some (.slice A0_0 l0_0.length c0_0) := (zah BK360.out 0).trans rfl
         have hfz20_0 := zaf BK360.out 0
         go_wp2_with (first | (go_at_call 56; (with_reducible refine (zbo.calls _ _ l0_0 a1 true _ ?side1 ?side2 A18.out).mono ?_); (case side1 => repeat (first | exact (Kd.C_below HR0_0.out HB.out) | (with_reducible refine Kd.C_alloc ?_ _) | (with_reducible refine Kd.C_drewN ?_ _) | (with_reducible refine Kd.C_drew ?_))); (case side2 => exact HC0_0.out); rintro e w21 ⟨rfl, hb⟩; have n0_ := zaa.mk (zaq (g := gb360) (o := .cells #[.slice A0_0 l0_0.length c0_0] 24 (0, 0)) (by (with_reducible repeat (first | refine zak ?_ _ | refine zam ?_ | refine zaj ?_ _)); exact BK360.out) hb); have n1_ := zaa.mk (zai (by repeat (first | (with_reducible first | exact HB.out | apply zac | apply zab | apply zad | refine zal ?_ GE360.out) | exact HB.out)) hb); clear BK360; clear HB; have BK360 := n0_; have HB := n1_; clear n0_ n1_; (try clear hb); (try clear hb2); (try clear hk); (try clear hi)))
         go_ret
         exact ⟨by first | rfl | (simp [zas, zar] <;> rfl) | (simp [*, zas, zar] <;> rfl), by repeat (first | (with_reducible first | exact HB.out | apply zac | apply zab | apply zad | refine zal ?_ GE360.out) | exact HB.out)⟩
        ·replace c19 := Bool.eq_false_iff.mpr c19
         subst c19
         have H1 : (some 0) = some r := by rw [if_neg (show ¬ (false = true) by decide)] at H; exact H
         clear H
         have H := H1
         clear H1
         obtain rfl := Option.some.inj H
         have hcz22_0 : wc.cell? ⟨gb360, 0, none⟩ = some (.slice A0_0 l0_0.length c0_0) := (zah BK360.out 0).trans rfl
         have hfz22_0 := zaf BK360.out 0
         go_wp2_with (first | (go_at_call 56; (with_reducible refine (zbo.calls _ _ l0_0 a1 false _ ?side1 ?side2 A18.out).mono ?_); (case side1 => repeat (first | exact (Kd.C_below HR0_0.out HB.out) | (with_reducible refine Kd.C_alloc ?_ _) | (with_reducible refine Kd.C_drewN ?_ _) | (with_reducible refine Kd.C_drew ?_))); (case side2 => exact HC0_0.out); rintro e w23 ⟨rfl, hb⟩; have n0_ := zaa.mk (zaq (g := gb360) (o := .cells #[.slice A0_0 l0_0.length c0_0] 24 (0, 0)) (by (with_reducible repeat (first | refine zak ?_ _ | refine zam ?_ | refine zaj ?_ _)); exact BK360.out) hb); have n1_ := zaa.mk (zai (by repeat (first | (with_reducible first | exact HB.out | apply zac | apply zab | apply zad | refine zal ?_ GE360.out) | exact HB.out)) hb); clear BK360; clear HB; have BK360 := n0_; have HB := n1_; clear n0_ n1_; (try clear hb); (try clear hb2); (try clear hk); (try clear hi)))
         go_ret
         exact ⟨by first | rfl | (simp [zas, zar] <;> rfl) | (simp [*, zas, zar] <;> rfl), by repeat (first | (with_reducible first | exact HB.out | apply zac | apply zab | apply zad | refine zal ?_ GE360.out) | exact HB.out)⟩
def za2.j0 : Nat → Int → Int → Int → Int → Bool → List (S45) → Option (Int)
 | 0, _, _, _, _, _, _ => none
 | k + 1, x1, x2, x3, x4, x13, x368000 => if x13 = true then (some 28) else (if x4 ≥ 0 then ((zbo.f x368000 x1).bind fun t370 => ((zaU.f k x368000 x4 t370).bind fun t371 => (some t371))) else (if 0 ≤ x3 then (if x3 < (x368000.length : Int) then (if (((zae x368000 x3).f2).length : Int) = 64 then (if x2 = x3 then (some 0) else (some 51)) else (some 0)) else (none)) else (none)))
def za2.f (k : Nat) (l0_0 : List (S45)) (a1 : Int) (a2 : Int) (a3 : Int) (a4 : Int) (a5 : ByteArray) : Option (Int) := (zbo.f l0_0 a1).bind fun t368 => (if t368 = true then ((zbg.f k l0_0 a3 a1).bind fun t369 => (za2.j0 k a1 a2 a3 a4 t369 l0_0)) else (za2.j0 k a1 a2 a3 a4 false l0_0))
set_option maxHeartbeats 8000000 in
set_option maxRecDepth 100000 in
theorem za2.calls (k : Nat) (A0_0 : Option Addr) (c0_0 : Nat) (l0_0 : List (S45)) (a1 : Int) (a2 : Int) (a3 : Int) (a4 : Int) (a5 : ByteArray) (r : Int) (w : World) (hr0_0 : Kd.C k45 w A0_0 l0_0.length l0_0) (hc0_0 : l0_0.length ≤ c0_0) (h : za2.f k l0_0 a1 a2 a3 a4 a5 = some r) :
  Calls Try.prog 54 #[.agg #[.slice A0_0 l0_0.length c0_0], .int .i64 a1, .int .i64 a2, .int .i64 a3, .int .i64 a4, .string a5] w fun e w' => e = .returned (.int .i64 r) ∧ Below w.heap.size w w' := by
 have hu24 := Try.underlying24
 have HR0_0 := zaa.mk hr0_0
 have HC0_0 := zaa.mk hc0_0
 clear hr0_0 hc0_0
 have HB := zaa.mk (Below.refl w.heap.size w)
 have H : ((zbo.f l0_0 a1).bind fun t368 => (if t368 = true then ((zbg.f k l0_0 a3 a1).bind fun t369 => (za2.j0 k a1 a2 a3 a4 t369 l0_0)) else (za2.j0 k a1 a2 a3 a4 false l0_0))) = some r := h
 clear h
 have HC7 := zaa.mk H
 clear H
 go_enter Try.func54, Try.ntmps54
 go_upto_region 1 with (first | ((with_reducible refine zaT (N := 6) rfl ?_); refine zaN ?hg (N := 6) ?hd (cs := #[.slice A0_0 l0_0.length c0_0]) (t := 24) ?hr ?_; (case hd => rfl); (case hg => rfl); (case hr => first | (go_simp; done) | (go_simp; rfl)); intro gb367 hg w8 hbox hb; have n0_ := zaa.mk (zai (by repeat (first | (with_reducible first | exact HB.out | apply zac | apply zab | apply zad) | exact HB.out)) hb); have n1_ := zaa.mk (hbox); have n2_ := zaa.mk ((by rw [hg]; exact (zao (by repeat (first | (with_reducible first | exact HB.out | apply zac | apply zab | apply zad) | exact HB.out))) : w.heap.size ≤ gb367)); have n3_ := zaa.mk ((by rw [hg]; exact (zao (by repeat (first | (with_reducible first | exact HB.out | apply zac | apply zab | apply zad) | exact HB.out))) : w.heap.size ≤ gb367)); clear HB; have HB := n0_; have BK367 := n1_; have GW367 := n2_; have GE367 := n3_; clear n0_ n1_ n2_ n3_; clear hb hbox hg))
 (try simp only [Act.put, List.setIfInBounds_toArray, List.set_cons_zero, List.set_cons_succ])
 go_cut [13] (fun v13 wc => ∃ (kq : Nat) (x13_6 : Bool), v13 = .bool x13_6 ∧ zaa (za2.j0 kq a1 a2 a3 a4 x13_6 l0_0 = some r) ∧ zaa (kq ≤ k) ∧ zaa (wc.heap[gb367]? = some (.cells #[(.slice A0_0 l0_0.length c0_0)] 24 (0, 0))) ∧ zaa (Below w.heap.size w wc))
 case first =>
  have H := HC7.out
  clear HC7
  replace H := Option.bind_eq_some_iff.mp H
  obtain ⟨t368, A90, H⟩ := H
  replace H : (if t368 = true then ((zbg.f k l0_0 a3 a1).bind fun t369 => (za2.j0 k a1 a2 a3 a4 t369 l0_0)) else (za2.j0 k a1 a2 a3 a4 false l0_0)) = some r := H
  have A9 := zaa.mk A90
  clear A90
  by_cases c10 : t368 = true
  ·subst c10
   have H1 : ((zbg.f k l0_0 a3 a1).bind fun t369 => (za2.j0 k a1 a2 a3 a4 t369 l0_0)) = some r := by rw [if_pos rfl] at H; exact H
   clear H
   have H := H1
   clear H1
   replace H := Option.bind_eq_some_iff.mp H
   obtain ⟨t369, A110, H⟩ := H
   replace H : (za2.j0 k a1 a2 a3 a4 t369 l0_0) = some r := H
   have A11 := zaa.mk A110
   clear A110
   have H' := zaa.mk H
   clear H
   have hcz12_0 : w8.cell? ⟨gb367, 0, none⟩ = some (.slice A0_0 l0_0.length c0_0) := (zah BK367.out 0).trans rfl
   have hfz12_0 := zaf BK367.out 0
   go_wp2_with (first | ((with_reducible refine zaW (f := 56) rfl ?_); refine zbE (some 16) rfl rfl Try.func56 (by kernel_rfl) rfl #[.agg #[.slice A0_0 l0_0.length c0_0], .int .i64 a1] rfl (by (try simp only [List.map_toArray, List.map_cons, List.map_nil]); first | done | rfl | (simp only [List.length_drop, List.length_take]; rfl)) ?_; (with_reducible refine (zbo.calls _ _ l0_0 a1 true _ ?side1 ?side2 A9.out).mono ?_); (case side1 => repeat (first | exact (Kd.C_below HR0_0.out HB.out) | (with_reducible refine Kd.C_alloc ?_ _) | (with_reducible refine Kd.C_drewN ?_ _) | (with_reducible refine Kd.C_drew ?_))); (case side2 => exact HC0_0.out); rintro e w13 ⟨rfl, hb⟩; refine ⟨_, rfl, ?_⟩; have n0_ := zaa.mk (zaq (g := gb367) (o := .cells #[.slice A0_0 l0_0.length c0_0] 24 (0, 0)) (by (with_reducible repeat (first | refine zak ?_ _ | refine zam ?_ | refine zaj ?_ _)); exact BK367.out) hb); have n1_ := zaa.mk (zai (by repeat (first | (with_reducible first | exact HB.out | apply zac | apply zab | apply zad | refine zal ?_ GE367.out) | exact HB.out)) hb); clear BK367; clear HB; have BK367 := n0_; have HB := n1_; clear n0_ n1_; (try clear hb); (try clear hb2); (try clear hk); (try clear hi); have hcz14_0 : w13.cell? ⟨gb367, 0, none⟩ = some (.slice A0_0 l0_0.length c0_0) := (zah BK367.out 0).trans rfl; have hfz14_0 := zaf BK367.out 0) | (go_at_call 68; (with_reducible refine (zbg.calls k _ _ l0_0 a3 a1 t369 _ ?side1 ?side2 A11.out).mono ?_); (case side1 => repeat (first | exact (Kd.C_below HR0_0.out HB.out) | (with_reducible refine Kd.C_alloc ?_ _) | (with_reducible refine Kd.C_drewN ?_ _) | (with_reducible refine Kd.C_drew ?_))); (case side2 => exact HC0_0.out); rintro e w15 ⟨rfl, hb⟩; have n0_ := zaa.mk (zaq (g := gb367) (o := .cells #[.slice A0_0 l0_0.length c0_0] 24 (0, 0)) (by (with_reducible repeat (first | refine zak ?_ _ | refine zam ?_ | refine zaj ?_ _)); exact BK367.out) hb); have n1_ := zaa.mk (zai (by repeat (first | (with_reducible first | exact HB.out | apply zac | apply zab | apply zad | refine zal ?_ GE367.out) | exact HB.out)) hb); clear BK367; clear HB; have BK367 := n0_; have HB := n1_; clear n0_ n1_; (try clear hb); (try clear hb2); (try clear hk); (try clear hi)))
   go_meet
   case rel => exact ⟨_, (t369), (by first | rfl | (simp; done) | (simp [*]; done)), H', ⟨by first | omega | exact Nat.le_refl _⟩, ⟨by (with_reducible repeat (first | refine zak ?_ _ | refine zam ?_ | refine zaj ?_ _)); exact BK367.out⟩, ⟨by repeat (first | (with_reducible first | exact HB.out | apply zac | apply zab | apply zad | refine zal ?_ GE367.out) | exact HB.out)⟩⟩
  ·replace c10 := Bool.eq_false_iff.mpr c10
   subst c10
   have H1 : (za2.j0 k a1 a2 a3 a4 false l0_0) = some r := by rw [if_neg (show ¬ (false = true) by decide)] at H; exact H
   clear H
   have H := H1
   clear H1
   have H' := zaa.mk H
   clear H
   have hcz16_0 : w8.cell? ⟨gb367, 0, none⟩ = some (.slice A0_0 l0_0.length c0_0) := (zah BK367.out 0).trans rfl
   have hfz16_0 := zaf BK367.out 0
   go_wp2_with (first | ((with_reducible refine zaW (f := 56) rfl ?_); refine zbE (some 16) rfl rfl Try.func56 (by kernel_rfl) rfl #[.agg #[.slice A0_0 l0_0.length c0_0], .int .i64 a1] rfl (by (try simp only [List.map_toArray, List.map_cons, List.map_nil]); first | done | rfl | (simp only [List.length_drop, List.length_take]; rfl)) ?_; (with_reducible refine (zbo.calls _ _ l0_0 a1 false _ ?side1 ?side2 A9.out).mono ?_); (case side1 => repeat (first | exact (Kd.C_below HR0_0.out HB.out) | (with_reducible refine Kd.C_alloc ?_ _) | (with_reducible refine Kd.C_drewN ?_ _) | (with_reducible refine Kd.C_drew ?_))); (case side2 => exact HC0_0.out); rintro e w17 ⟨rfl, hb⟩; refine ⟨_, rfl, ?_⟩; have n0_ := zaa.mk (zaq (g := gb367) (o := .cells #[.slice A0_0 l0_0.length c0_0] 24 (0, 0)) (by (with_reducible repeat (first | refine zak ?_ _ | refine zam ?_ | refine zaj ?_ _)); exact BK367.out) hb); have n1_ := zaa.mk (zai (by repeat (first | (with_reducible first | exact HB.out | apply zac | apply zab | apply zad | refine zal ?_ GE367.out) | exact HB.out)) hb); clear BK367; clear HB; have BK367 := n0_; have HB := n1_; clear n0_ n1_; (try clear hb); (try clear hb2); (try clear hk); (try clear hi)))
   go_meet
   case rel => exact ⟨_, (false), (by first | rfl | (simp; done) | (simp [*]; done)), H', ⟨by first | omega | exact Nat.le_refl _⟩, ⟨by (with_reducible repeat (first | refine zak ?_ _ | refine zam ?_ | refine zaj ?_ _)); exact BK367.out⟩, ⟨by repeat (first | (with_reducible first | exact HB.out | apply zac | apply zab | apply zad | refine zal ?_ GE367.out) | exact HB.out)⟩⟩
 case rest =>
  clear HC7
  try clear c1
  try clear p2
  try clear c5
  try clear c10
  try clear hcz12_0
  try clear hcz14_0
  try clear hcz16_0
  try clear hfz12_0
  try clear hfz14_0
  try clear hfz16_0
  obtain ⟨kq, x13_6, rfl, HA, HJ6, BK367, HB⟩ := hcut
  cases kq with
  | zero => exact absurd HA.out (by simp [za2.j0])
  | succ kj6 =>
   have H := HA.out
   clear HA
   simp only [za2.j0] at H
   by_cases c18 : x13_6 = true
   ·subst c18
    have H1 : (some 28) = some r := by rw [if_pos rfl] at H; exact H
    clear H
    have H := H1
    clear H1
    obtain rfl := Option.some.inj H
    go_wp2
    go_ret
    exact ⟨by first | rfl | (simp [zas, zar] <;> rfl) | (simp [*, zas, zar] <;> rfl), by repeat (first | (with_reducible first | exact HB.out | apply zac | apply zab | apply zad | refine zal ?_ GE367.out) | exact HB.out)⟩
   ·replace c18 := Bool.eq_false_iff.mpr c18
    subst c18
    have H1 : (if a4 ≥ 0 then ((zbo.f l0_0 a1).bind fun t370 => ((zaU.f kj6 l0_0 a4 t370).bind fun t371 => (some t371))) else (if 0 ≤ a3 then (if a3 < (l0_0.length : Int) then (if (((zae l0_0 a3).f2).length : Int) = 64 then (if a2 = a3 then (some 0) else (some 51)) else (some 0)) else (none)) else (none))) = some r := by rw [if_neg (show ¬ (false = true) by decide)] at H; exact H
    clear H
    have H := H1
    clear H1
    by_cases c19 : a4 ≥ 0
    ·rw [if_pos c19] at H
     have c19b0 : decide (0 ≤ a4) = true := decide_eq_true c19
     clear c19
     replace H := Option.bind_eq_some_iff.mp H
     obtain ⟨t370, A200, H⟩ := H
     replace H : ((zaU.f kj6 l0_0 a4 t370).bind fun t371 => (some t371)) = some r := H
     have A20 := zaa.mk A200
     clear A200
     replace H := Option.bind_eq_some_iff.mp H
     obtain ⟨t371, A210, H⟩ := H
     replace H : (some t371) = some r := H
     have A21 := zaa.mk A210
     clear A210
     obtain rfl := Option.some.inj H
     try go_wp2
     have n0_ := zaa.mk (zam BK367.out)
     have n1_ := zaa.mk (zad HB.out)
     clear BK367
     clear HB
     have BK367 := n0_
     have HB := n1_
     clear n0_ n1_
     refine start_ (n := 7) (S := fun w' => w'.cell? ⟨gb367, 0, none⟩ = some (.slice A0_0 l0_0.length c0_0)) (ds := []) #[false, false, false, false, false, false, false] (by kernel_rfl) rfl rfl ((zah BK367.out 0).trans rfl) (fun hHeld => ?_)
     generalize wc.drew = w22 at BK367 HB hHeld ⊢
     refine zb2 (i := 1) (N := some 27) (v := ?_) (a' := ?_) #[false, true, false, false, false, false, false] rfl rfl (by kernel_rfl) (fun _ _ _ h => h) (Or.inl ⟨by rfl, ?_⟩) ?_ ?_
     rotate_left
     ·intro w'
      go_simp
      with_reducible rfl
     rotate_left
     ·simp only [Act.put, List.setIfInBounds_toArray, List.set_cons_zero, List.set_cons_succ, zbq, zbv]
      rfl
     refine zb2 (i := 3) (N := some 29) (v := ?_) (a' := ?_) #[false, true, false, true, false, false, false] rfl rfl (by kernel_rfl) (fun _ _ _ h => h) (Or.inl ⟨by rfl, ?_⟩) ?_ ?_
     rotate_left
     ·intro w'
      go_simp
      with_reducible rfl
     rotate_left
     ·simp only [Act.put, List.setIfInBounds_toArray, List.set_cons_zero, List.set_cons_succ, zbq, zbv]
      rfl
     refine take_ (i := 0) (N := some 26) (v := ?_) (a' := ?_) #[true, true, false, true, false, false, false] rfl rfl (by kernel_rfl) (fun _ _ _ h => h) (Or.inl ⟨by rfl, ?_⟩) hHeld ?_ ?_
     rotate_left
     ·intro w' s0
      go_simp
      with_reducible rfl
     rotate_left
     ·simp only [Act.put, List.setIfInBounds_toArray, List.set_cons_zero, List.set_cons_succ, zbq, zbv]
      rfl
     refine take_ (i := 2) (N := some 28) (v := ?_) (a' := ?_) #[true, true, true, true, false, false, false] rfl rfl (by kernel_rfl) (fun _ _ _ h => h) (Or.inl ⟨by rfl, ?_⟩) hHeld ?_ ?_
     rotate_left
     ·intro w' s0
      go_simp
      with_reducible rfl
     rotate_left
     ·simp only [Act.put, List.setIfInBounds_toArray, List.set_cons_zero, List.set_cons_succ, zbq, zbv]
      rfl
     refine one_ (i := 4) (N := some 30) #[true, true, true, true, true, false, false] rfl rfl (by kernel_rfl) (by decide) (fun K hK => ?_)
     refine goes_ Try.func56 (by kernel_rfl) rfl #[.agg #[.slice A0_0 l0_0.length c0_0], .int .i64 a1] (by rfl) rfl rfl (by (try simp only [List.map_toArray, List.map_cons, List.map_nil]); first | done | rfl | (simp only [List.length_drop, List.length_take]; rfl)) ?_
     with_reducible refine (zbo.calls _ _ l0_0 a1 t370 _ ?side1 ?side2 A20.out).mono ?_
     (case side1 => repeat (first | exact (Kd.C_below HR0_0.out HB.out) | (with_reducible refine Kd.C_alloc ?_ _) | (with_reducible refine Kd.C_drewN ?_ _) | (with_reducible refine Kd.C_drew ?_)))
     (case side2 => exact HC0_0.out)
     rintro e w23 ⟨rfl, hb⟩
     refine ⟨_, rfl, ?_⟩
     have n0_ := zaa.mk (zaq (g := gb367) (o := .cells #[.slice A0_0 l0_0.length c0_0] 24 (0, 0)) (by (with_reducible repeat (first | refine zak ?_ _ | refine zam ?_ | refine zaj ?_ _)); exact BK367.out) hb)
     have n1_ := zaa.mk (zai (by repeat (first | (with_reducible first | exact HB.out | apply zac | apply zab | apply zad | refine zal ?_ GE367.out) | exact HB.out)) hb)
     clear BK367
     clear HB
     have BK367 := n0_
     have HB := n1_
     clear n0_ n1_
     (try clear hb)
     (try clear hb2)
     (try clear hk)
     (try clear hi)
     refine hK.out _ _ ((zah BK367.out 0).trans rfl) (fun hHeld => ?_)
     clear hK K
     refine norm_ (a' := ?_) ?_ ?_
     rotate_left
     ·show Act.put _ (some 30) _ = _
      simp only [Act.put, List.setIfInBounds_toArray, List.set_cons_zero, List.set_cons_succ, zbq, zbv]
      rfl
     refine one_ (i := 5) (N := some 31) #[true, true, true, true, true, true, false] rfl rfl (by kernel_rfl) (by decide) (fun K hK => ?_)
     refine goes_ Try.func57 (by kernel_rfl) rfl #[.agg #[.slice A0_0 l0_0.length c0_0], .int .i64 a4, .bool t370] (by rfl) rfl rfl (by (try simp only [List.map_toArray, List.map_cons, List.map_nil]); first | done | rfl | (simp only [List.length_drop, List.length_take]; rfl)) ?_
     with_reducible refine (zaU.calls kj6 _ _ l0_0 a4 t370 t371 _ ?side1 ?side2 A21.out).mono ?_
     (case side1 => repeat (first | exact (Kd.C_below HR0_0.out HB.out) | (with_reducible refine Kd.C_alloc ?_ _) | (with_reducible refine Kd.C_drewN ?_ _) | (with_reducible refine Kd.C_drew ?_)))
     (case side2 => exact HC0_0.out)
     rintro e w24 ⟨rfl, hb⟩
     refine ⟨_, rfl, ?_⟩
     have n0_ := zaa.mk (zaq (g := gb367) (o := .cells #[.slice A0_0 l0_0.length c0_0] 24 (0, 0)) (by (with_reducible repeat (first | refine zak ?_ _ | refine zam ?_ | refine zaj ?_ _)); exact BK367.out) hb)
     have n1_ := zaa.mk (zai (by repeat (first | (with_reducible first | exact HB.out | apply zac | apply zab | apply zad | refine zal ?_ GE367.out) | exact HB.out)) hb)
     clear BK367
     clear HB
     have BK367 := n0_
     have HB := n1_
     clear n0_ n1_
     (try clear hb)
     (try clear hb2)
     (try clear hk)
     (try clear hi)
     refine hK.out _ _ ((zah BK367.out 0).trans rfl) (fun hHeld => ?_)
     clear hK K
     refine norm_ (a' := ?_) ?_ ?_
     rotate_left
     ·show Act.put _ (some 31) _ = _
      simp only [Act.put, List.setIfInBounds_toArray, List.set_cons_zero, List.set_cons_succ, zbq, zbv]
      rfl
     refine zb2 (i := 6) (N := some 12) (v := ?_) (a' := ?_) #[true, true, true, true, true, true, true] rfl rfl (by kernel_rfl) (fun _ _ _ h => h) (Or.inl ⟨by rfl, ?_⟩) ?_ ?_
     rotate_left
     ·intro w'
      go_simp
      with_reducible rfl
     rotate_left
     ·simp only [Act.put, List.setIfInBounds_toArray, List.set_cons_zero, List.set_cons_succ, zbq, zbv]
      rfl
     refine done_ (by kernel_rfl) ?_
     try go_wp2
     go_ret
     exact ⟨by first | rfl | (simp [zas, zar] <;> rfl) | (simp [*, zas, zar] <;> rfl), by repeat (first | (with_reducible first | exact HB.out | apply zac | apply zab | apply zad | refine zal ?_ GE367.out) | exact HB.out)⟩
    ·rw [if_neg c19] at H
     have c19b0 : decide (0 ≤ a4) = false := decide_eq_false c19
     clear c19
     by_cases c25 : 0 ≤ a3
     ·rw [if_pos c25] at H
      have c25b0 : decide (0 ≤ a3) = true := decide_eq_true c25
      clear c25
      by_cases c26 : a3 < (l0_0.length : Int)
      ·rw [if_pos c26] at H
       have c26b0 : decide (a3 < (l0_0.length : Int)) = true := decide_eq_true c26
       clear c26
       by_cases c27 : (((zae l0_0 a3).f2).length : Int) = 64
       ·rw [if_pos c27] at H
        have c27b0 : ((((zae l0_0 a3).f2).length : Int) == 64) = true := beq_iff_eq.mpr c27
        have c27b1 : ((((zae l0_0 a3).f2).length : Int) != 64) = false := bne_eq_false_iff_eq.mpr c27
        clear c27
        by_cases c28 : a2 = a3
        ·rw [if_pos c28] at H
         have c28b0 : (a2 == a3) = true := beq_iff_eq.mpr c28
         have c28b1 : (a2 != a3) = false := bne_eq_false_iff_eq.mpr c28
         clear c28
         obtain rfl := Option.some.inj H
         have hcz29_0 : wc.cell? ⟨gb367, 0, none⟩ = some (.slice A0_0 l0_0.length c0_0) := (zah BK367.out 0).trans rfl
         have hfz29_0 := zaf BK367.out 0
         have p372 : 0 ≤ (a3 : Int) := of_decide_eq_true (by first | (with_reducible assumption) | assumption)
         have q372 : a3 < (l0_0.length : Int) := of_decide_eq_true (by first | (with_reducible assumption) | assumption)
         obtain ⟨ad372, A372_1, c372_1, A372_2, c372_2, e372, hx372_0, hx372_1, hx372_2, hx372_3, hx372_4, hx372_5, hl372_1, hi372_1, hl372_2, hi372_2⟩ := zbn HR0_0.out a3 p372 q372
         cases e372
         replace hx372_0 := (HB.out.cell (World.block_lt_of_cell? w _ hx372_0)).trans hx372_0
         replace hx372_1 := (HB.out.cell (World.block_lt_of_cell? w _ hx372_1)).trans hx372_1
         replace hx372_2 := (HB.out.cell (World.block_lt_of_cell? w _ hx372_2)).trans hx372_2
         replace hx372_3 := (HB.out.cell (World.block_lt_of_cell? w _ hx372_3)).trans hx372_3
         replace hx372_4 := (HB.out.cell (World.block_lt_of_cell? w _ hx372_4)).trans hx372_4
         replace hx372_5 := (HB.out.cell (World.block_lt_of_cell? w _ hx372_5)).trans hx372_5
         have HR372_1 := zaa.mk hi372_1
         have HC372_1 := zaa.mk hl372_1
         clear hi372_1 hl372_1
         have HR372_2 := zaa.mk hi372_2
         have HC372_2 := zaa.mk hl372_2
         clear hi372_2 hl372_2
         replace p372 := eq_true p372
         replace q372 := eq_true q372
         go_wp2
         go_ret
         exact ⟨by first | rfl | (simp [zas, zar] <;> rfl) | (simp [*, zas, zar] <;> rfl), by repeat (first | (with_reducible first | exact HB.out | apply zac | apply zab | apply zad | refine zal ?_ GE367.out) | exact HB.out)⟩
        ·rw [if_neg c28] at H
         have c28b0 : (a2 == a3) = false := beq_eq_false_iff_ne.mpr c28
         have c28b1 : (a2 != a3) = true := bne_iff_ne.mpr c28
         obtain rfl := Option.some.inj H
         have hcz30_0 : wc.cell? ⟨gb367, 0, none⟩ = some (.slice A0_0 l0_0.length c0_0) := (zah BK367.out 0).trans rfl
         have hfz30_0 := zaf BK367.out 0
         have p372 : 0 ≤ (a3 : Int) := of_decide_eq_true (by first | (with_reducible assumption) | assumption)
         have q372 : a3 < (l0_0.length : Int) := of_decide_eq_true (by first | (with_reducible assumption) | assumption)
         obtain ⟨ad372, A372_1, c372_1, A372_2, c372_2, e372, hx372_0, hx372_1, hx372_2, hx372_3, hx372_4, hx372_5, hl372_1, hi372_1, hl372_2, hi372_2⟩ := zbn HR0_0.out a3 p372 q372
         cases e372
         replace hx372_0 := (HB.out.cell (World.block_lt_of_cell? w _ hx372_0)).trans hx372_0
         replace hx372_1 := (HB.out.cell (World.block_lt_of_cell? w _ hx372_1)).trans hx372_1
         replace hx372_2 := (HB.out.cell (World.block_lt_of_cell? w _ hx372_2)).trans hx372_2
         replace hx372_3 := (HB.out.cell (World.block_lt_of_cell? w _ hx372_3)).trans hx372_3
         replace hx372_4 := (HB.out.cell (World.block_lt_of_cell? w _ hx372_4)).trans hx372_4
         replace hx372_5 := (HB.out.cell (World.block_lt_of_cell? w _ hx372_5)).trans hx372_5
         have HR372_1 := zaa.mk hi372_1
         have HC372_1 := zaa.mk hl372_1
         clear hi372_1 hl372_1
         have HR372_2 := zaa.mk hi372_2
         have HC372_2 := zaa.mk hl372_2
         clear hi372_2 hl372_2
         replace p372 := eq_true p372
         replace q372 := eq_true q372
         go_wp2
         go_ret
         exact ⟨by first | rfl | (simp [zas, zar] <;> rfl) | (simp [*, zas, zar] <;> rfl), by repeat (first | (with_reducible first | exact HB.out | apply zac | apply zab | apply zad | refine zal ?_ GE367.out) | exact HB.out)⟩
       ·rw [if_neg c27] at H
        have c27b0 : ((((zae l0_0 a3).f2).length : Int) == 64) = false := beq_eq_false_iff_ne.mpr c27
        have c27b1 : ((((zae l0_0 a3).f2).length : Int) != 64) = true := bne_iff_ne.mpr c27
        obtain rfl := Option.some.inj H
        have hcz31_0 : wc.cell? ⟨gb367, 0, none⟩ = some (.slice A0_0 l0_0.length c0_0) := (zah BK367.out 0).trans rfl
        have hfz31_0 := zaf BK367.out 0
        have p372 : 0 ≤ (a3 : Int) := of_decide_eq_true (by first | (with_reducible assumption) | assumption)
        have q372 : a3 < (l0_0.length : Int) := of_decide_eq_true (by first | (with_reducible assumption) | assumption)
        obtain ⟨ad372, A372_1, c372_1, A372_2, c372_2, e372, hx372_0, hx372_1, hx372_2, hx372_3, hx372_4, hx372_5, hl372_1, hi372_1, hl372_2, hi372_2⟩ := zbn HR0_0.out a3 p372 q372
        cases e372
        replace hx372_0 := (HB.out.cell (World.block_lt_of_cell? w _ hx372_0)).trans hx372_0
        replace hx372_1 := (HB.out.cell (World.block_lt_of_cell? w _ hx372_1)).trans hx372_1
        replace hx372_2 := (HB.out.cell (World.block_lt_of_cell? w _ hx372_2)).trans hx372_2
        replace hx372_3 := (HB.out.cell (World.block_lt_of_cell? w _ hx372_3)).trans hx372_3
        replace hx372_4 := (HB.out.cell (World.block_lt_of_cell? w _ hx372_4)).trans hx372_4
        replace hx372_5 := (HB.out.cell (World.block_lt_of_cell? w _ hx372_5)).trans hx372_5
        have HR372_1 := zaa.mk hi372_1
        have HC372_1 := zaa.mk hl372_1
        clear hi372_1 hl372_1
        have HR372_2 := zaa.mk hi372_2
        have HC372_2 := zaa.mk hl372_2
        clear hi372_2 hl372_2
        replace p372 := eq_true p372
        replace q372 := eq_true q372
        go_wp2
        go_ret
        exact ⟨by first | rfl | (simp [zas, zar] <;> rfl) | (simp [*, zas, zar] <;> rfl), by repeat (first | (with_reducible first | exact HB.out | apply zac | apply zab | apply zad | refine zal ?_ GE367.out) | exact HB.out)⟩
      ·rw [if_neg c26] at H
       exact absurd H (by simp)
     ·rw [if_neg c25] at H
      exact absurd H (by simp)
theorem step_append_run2 {P : Program} {ops : Array Oper} {o : Oper} {a : Act} {w : World} {K : Act → World → Prop} {Q : Exit → Act → World → Prop} {E : Prop}
  (hg : o.guard = none) (d x : Operand) (dT sT : TypeId) (hop : o.op = Op.call { callee := Callee.builtin Builtin.append, args := #[d, x], argTypes := #[dT, sT] })
  (v u : Value) (hd : a.eval d = v) (hx : a.eval x = u) {v' : Value} {w' : World} (hr : (Builtin.append_ #[dT, sT] o.type #[v, u]).run P w = .ok v' w') (hK : K (a.put o.dst v') w') :
  if Region.wanted o (yielded ops a.tmps) = true then Oper.wp P o a w K Q else E := by
 have hw : Region.wanted o (yielded ops a.tmps) = true := by simp [Region.wanted, hg]
 rw [if_pos hw]
 unfold Oper.wp
 simp [execOp, hop, resolve, invoke, builtin, hd, hx, hr, Result.andThen]
 exact hK
theorem wpList_clear_run {P : Program} (w : World) {ops : Array Oper} {rest : List Oper} {o : Oper} {a : Act} {Q : Exit → Act → World → Prop} (hgd : o.guard = none) (x : Operand) (t : TypeId)
  (ho : o.op = .call { callee := .builtin .clear, args := #[x], argTypes := #[t] }) (v : Value) (hx : a.eval x = v) {v' : Value} {w' : World}
  (hr : (Builtin.clear_ #[t] o.type #[v]).run P w = .ok v' w') (h : wpList P ops Q rest (a.put o.dst v') w') : wpList P ops Q (o :: rest) a w :=
 wpList_plain hgd fun K hK => by
  unfold Oper.wp execOp
  simp only [ho, resolve, invoke, builtin, Sem.run_bind, Sem.run_pure, Result.andThen_ok, List.map_toArray, List.map_cons, List.map_nil, hx, hr]
  exact hK _ _ h
theorem run_clear_row {P : Program} (w : World) (t ty elem : TypeId) (g o n c : Nat) (cur : Array Value) (tt : TypeId) (i : TypeInfo) (z : Value)
  (hu : P.underlying t = some (.slice elem)) (hi : P.info? elem = some i) (hz : i.zero = some z) (hn : 0 < n)
  (hg : w.heap[g]? = some (.cells cur tt (0, 0))) (hfit : o + n * z.cells.size ≤ cur.size) (h1 : ∀ v ∈ (Builtin.zeroCells z.cells n).toList, v.oneCell' = true) :
  (Builtin.clear_ #[t] ty #[.slice (some ⟨g, o, none⟩) n c]).run P w =
   .ok (.tuple #[]) (w.setRow g (cur.toList.take o ++ (Builtin.zeroCells z.cells n).toList ++ cur.toList.drop (o + (Builtin.zeroCells z.cells n).toList.length)).toArray) := by
 have hst := run_storeCells_at P g o tt (Builtin.zeroCells z.cells n).toList 0 cur w hg (by rw [Array.length_toList, size_zeroCells]; simpa using hfit) h1
 obtain ⟨m, rfl⟩ : ∃ m, n = m + 1 := ⟨n - 1, by omega⟩
 simp [Builtin.clear_, run_underlying hu, zeroValue, typeInfo, hi, hz, hst]
set_option maxHeartbeats 4000000 in
set_option maxRecDepth 100000 in
theorem slices_Delete_api_Name_api_Name.calls (W : World) (base : Nat) (ok : Nat → Prop) (g c k : Nat) (ns : List S66) (hk : k < ns.length) (HO : k66.R 66 W base ok (.slice (some ⟨g, 0, none⟩) ns.length c) ns) :
  Calls Try.prog 69 #[.slice (some ⟨g, 0, none⟩) ns.length c, .int .i64 k, .int .i64 ((k : Int) + 1)] W fun e w' => e = .returned (.slice (some ⟨g, 0, none⟩) (ns.length - 1) c) ∧ k66.R 66 w' base ok (.slice (some ⟨g, 0, none⟩) (ns.length - 1) c) (ns.eraseIdx k) ∧ W.grownBy w' (some g) := by
 have hsl := Try.underlying43
 obtain ⟨_, hnc, _⟩ := Kd.zbL HO
 have hcm : c ≤ 9223372036854775807 := by
  obtain ⟨_, inner, ho, _⟩ := HO
  rcases ho.2 with ⟨hv, _⟩ | ⟨g', cap', cur, hv, _, _, _, hm, _⟩
  ·cases hv
  ·injection hv with _ _ h3; subst h3; unfold maxLen at hm; omega
 obtain ⟨i0, hi0, hz0, hzs, hzb⟩ := info_parts info66
 have hRd := Kd.zcm HO
 obtain ⟨A, hA⟩ : ∃ A : Option Addr, A = if c = k + 1 then some ⟨g, 0, none⟩ else (some (⟨g, 0, none⟩ : Addr)).map (·.add ((k + 1) * 2)) := ⟨_, rfl⟩
 obtain ⟨w1, hr1, hR1, hg1⟩ := Kd.R_delete_run (P := Try.prog) k66 base 43 43 66 i0 Try.underlying43 hi0 hzs hRd hk hA (c - (k + 1))
 have hlen1 : (ns.eraseIdx k).length = ns.length - 1 := by rw [List.length_eraseIdx]; simp [hk]
 obtain ⟨hok1, inner, ⟨hil, hown⟩, hrep⟩ := hR1
 rcases hown with ⟨hv, _⟩ | ⟨g', cap', cur, hv, hb, hg, hnc', hcm', hcs, ht⟩
 ·cases hv
 injection hv with hv1 hv2 hv3
 injection hv1 with hv1
 injection hv1 with hv1
 clear hv2
 subst hv1; subst hv3
 have hz1 : ∀ v ∈ (Builtin.zeroCells (Value.agg #[.string ⟨#[]⟩, .int .i64 0]).cells 1).toList, v.oneCell' = true := by
  intro v hv
  rw [show (Builtin.zeroCells (Value.agg #[.string ⟨#[]⟩, .int .i64 0]).cells 1).toList = [.string ⟨#[]⟩, .int .i64 0] from by kernel_rfl] at hv
  simp only [List.mem_cons, List.not_mem_nil, or_false] at hv; rcases hv with rfl | rfl <;> rfl
 have hcl := run_clear_row (P := Try.prog) w1 43 0 66 g ((ns.length - 1) * 2) 1 (c - (ns.length - 1)) cur 66 i0 _ Try.underlying43 hi0 hz0 (by decide) hg (by rw [hcs]; show _ + 1 * 2 ≤ c * 2; omega) hz1
 obtain ⟨w2, hw2⟩ : ∃ w2, w2 = w1.setRow g (cur.toList.take ((ns.length - 1) * 2) ++ (Builtin.zeroCells (Value.agg #[.string ⟨#[]⟩, .int .i64 0]).cells 1).toList ++ cur.toList.drop ((ns.length - 1) * 2 + (Builtin.zeroCells (Value.agg #[.string ⟨#[]⟩, .int .i64 0]).cells 1).toList.length)).toArray := ⟨_, rfl⟩
 rw [← hw2] at hcl
 have hzl : (Builtin.zeroCells (Value.agg #[.string ⟨#[]⟩, .int .i64 0]).cells 1).toList.length = 2 := by kernel_rfl
 have hcur2 : cur.toList.length = c * 2 := by rw [Array.length_toList]; exact hcs
 have hfin : k66.R 66 w2 base ok (.slice (some ⟨g, 0, none⟩) (ns.length - 1) c) (ns.eraseIdx k) ∧ W.grownBy w2 (some g) := by
  constructor
  ·refine ⟨hok1, inner, ⟨hil, .inr ⟨g, c, _, by rw [hlen1], hb, by rw [hw2]; exact setRow_heap w1 _ _ _ _ _ hg, hnc', hcm', ?_, ?_⟩⟩, hrep.imp_ (fun p cc hp => by rw [k66_openM hp]; exact k66_mkM _ _ _ p)⟩
   ·show _ = c * 2
    simp only [List.size_toArray, List.length_append, List.length_take, List.length_drop, hzl, hcur2]; omega
   ·rw [hlen1] at ht ⊢
    show (cur.toList.take _ ++ _ ++ _).take ((ns.length - 1) * 2) = inner
    rw [List.append_assoc, List.take_append_of_le_length (by rw [List.length_take, hcur2]; omega), List.take_take, Nat.min_self]
    exact ht
  ·have hgd := World.grownBy.trans (a := W) (b := W.drew) (row := some g) ⟨rfl, rfl, rfl, Nat.le_refl _, fun _ _ _ => rfl⟩ hg1
   refine hgd.trans ?_
   rw [hw2]
   exact ⟨rfl, rfl, rfl, by simp [World.setRow], fun q _ hq => setRow_other _ _ _ _ (fun e => hq (by rw [e]))⟩
 have HFIN := zaa.mk hfin
 have hz2 : ((k : Int) == (k : Int) + 1) = false := by simp; omega
 have hw1 : IntKind.i64.wrap ((k : Int) + 1) = (k : Int) + 1 := by rw [IntKind.wrap_i64]; omega
 have hb1 : (0 : Int) ≤ (k : Int) + 1 := by omega
 have htn : ((k : Int) + 1).toNat = k + 1 := by omega
 have hb3 : (k : Int) + 1 ≤ (ns.length : Int) := by omega
 have hb3n : k + 1 ≤ ns.length := by omega
 have hb4 : (k : Int) ≤ (k : Int) + 1 := by omega
 have hb5 : (k : Int) ≤ (ns.length : Int) := by omega
 have hb5n : k ≤ ns.length := by omega
 have hb6 : ¬ (c = ns.length - 1) := by omega
 have hb7 : ns.length - 1 ≤ ns.length := by omega
 have hb8 : ns.length - (ns.length - 1) = 1 := by omega
 have hb9 : ns.length ≤ c := hnc
 have hb10 : k ≤ c := by omega
 have hnm : ns.length ≤ 9223372036854775807 := by omega
 have mixed : Try.prog.follows .mixedOrders = true := by kernel_rfl
 clear hfin hw2 HO hRd hok1 hrep hil hg ht hcs hcur2 hnc' hcm' hi0 hz0 hzs hzb hg1 hlen1 hz1
 by_cases hck : c = k + 1
 ·rw [if_pos hck] at hA
  subst hA
  subst hck
  have hr2 := hr1
  rw [show k + 1 - (k + 1) = 0 by omega, show ns.length - (k + 1) = 0 by omega] at hr2
  have hzz : k + 1 - (ns.length - 1) = 1 := by omega
  rw [hzz] at hcl
  clear hr1 hnc hcm
  go_enter Try.func69, Try.ntmps69
  go_wp2
  go_region_law_o (refine step_append_run2 rfl _ _ 43 43 rfl (.slice (some ⟨g, 0, none⟩) k (k + 1)) (.slice (some ⟨g, 0, none⟩) 0 0) (by simp [Act.eval, Act.put]) (by simp [Act.eval, Act.put]) hr2 ?_)
  go_wp2_with (refine wpList_clear_run _ rfl _ 43 rfl _ rfl hcl ?_)
  go_ret
  exact ⟨rfl, HFIN.out⟩
 ·rw [if_neg hck] at hA
  have hA2 : A = some ⟨g, (k + 1) * 2, none⟩ := by rw [hA, Option.map_some, Addr.add_lit, Nat.zero_add]
  subst hA2
  clear hA
  go_enter Try.func69, Try.ntmps69
  go_wp2
  go_region_law_o (refine step_append_run2 rfl _ _ 43 43 rfl (.slice (some ⟨g, 0, none⟩) k c) (.slice (some ⟨g, (k + 1) * 2, none⟩) (ns.length - (k + 1)) (c - (k + 1))) (by simp [Act.eval, Act.put]) (by simp [Act.eval, Act.put]) hr1 ?_)
  go_wp2_with (refine wpList_clear_run _ rfl _ 43 rfl _ rfl hcl ?_)
  go_ret
  exact ⟨rfl, HFIN.out⟩
def za3 (l : List S45) (dir : Int) (s : ByteArray) (now : Int) : List S45 :=
 l.set dir.toNat { zae l dir with f2 := (zae l dir).f2.eraseIdx (bs (zae l dir).f2 s), f5 := now }
set_option maxHeartbeats 4000000 in
set_option maxRecDepth 100000 in
theorem tree_remove.calls (W : World) (base g c : Nat) (ok : Nat → Prop) (l : List S45) (dir : Int) (s : ByteArray) (now : Int) (hS : Kd.S k45 45 W base ok (.slice (some ⟨g, 0, none⟩) l.length c) l) (h0 : 0 ≤ dir) (h1 : dir < (l.length : Int)) (hbase : base ≤ W.heap.size) (hl : (zae l dir).f2.length ≤ 4611686018427387904) (hbs : bs (zae l dir).f2 s < (zae l dir).f2.length) :
  Calls Try.prog 55 #[.agg #[.slice (some ⟨g, 0, none⟩) l.length c], .int .i64 dir, .string s, .int .i64 now] W fun e w' => e = .returned (.tuple #[]) ∧ Kd.S k45 45 w' base ok (.slice (some ⟨g, 0, none⟩) l.length c) (za3 l dir s now) ∧ Below base W w' ∧ (∀ k, k < W.heap.size → ¬ ok k → w'.heap[k]? = W.heap[k]?) := by
 have hut := Try.underlying24
 have hun := Try.underlying45
 have hum := Try.underlying66
 obtain ⟨_, hlc, hC⟩ := Kd.za5 hS
 have hpl : za1.f l dir s = some ((bs (zae l dir).f2 s : Int), bsAt (zae l dir).f2 s) := by
  unfold za1.f
  rw [if_pos h0, if_pos h1, if_pos (by omega)]
 have HS := zaa.mk hS
 have HCC := zaa.mk hC
 have HPL := zaa.mk hpl
 have hmax : (zae l dir).f2.length ≤ 9223372036854775807 := by omega
 have HLC := zaa.mk hlc
 have p0 := eq_true h0
 have p1 := eq_true h1
 clear hS hC hpl hlc
 go_enter Try.func55, Try.ntmps55
 go_wp2_with (first | (go_at_call 66; refine (za1.calls (some ⟨g, 0, none⟩) c l dir s _ _ _ (Kd.C_below HCC.out (zac (Below.refl _ _) _)) HLC.out HPL.out).mono ?_; rintro e w2 ⟨rfl, hb⟩; have HB := zaa.mk hb; have hct := (zah (zaq (zbC W (.cells #[.slice (some ⟨g, 0, none⟩) l.length c] 24)) hb) 0).trans rfl; have HB2 := zaa.mk ((zai (zac (Below.refl W.heap.size W) _) hb).mono hbase); have hb2 := Nat.le_trans hbase HB2.out.size; have HO2 := zaa.mk (fun k (hk : k < W.heap.size) => (zai (zac (Below.refl W.heap.size W) _) hb).block k hk); have hsz2 := (zai (zac (Below.refl W.heap.size W) _) hb).size; obtain ⟨oki, v2, hc2, hR2, hoki, hokg, hgl, hbg, HK⟩ := named_anew (Kd.zbm HS.out (zai (zac (Below.refl _ _) _) hb)) dir h0 h1; have HR2 := zaa.mk hR2; have HOK := zaa.mk hoki; have HOG := zaa.mk hokg; clear hokg; have HKK := zaa.mk HK; clear hb hR2 HK hoki; obtain ⟨g2, c2, rfl, hg2b, hg2l, _⟩ := Kd.R_form HR2.out (by omega)) | (go_at_call 69; refine (slices_Delete_api_Name_api_Name.calls w2 base oki g2 c2 (bs (zae l dir).f2 s) (zae l dir).f2 hbs HR2.out).mono ?_; rintro e w3 ⟨rfl, hR3, hg3⟩; obtain ⟨hf, ⟨u2, hu2⟩, ⟨u5, hu5⟩, hf5, HFin⟩ := HKK.out w3 _ _ hg3 (Kd.zby hR3 (fun _ hk => .inl hk)); have HF := zaa.mk HFin; have HB3 := zaa.mk (HB2.out.grown hg3 hb2 (Kd.R_base HR2.out)); have HO3 := zaa.mk (fun k (hk : k < W.heap.size) (hn : ¬ ok k) => (hg3.block k (Nat.lt_of_lt_of_le hk hsz2) (fun e => hn (HOK.out k (HR2.out.1 k e.symm)).1)).trans (HO2.out k hk)); clear hR3 hg3 HFin))
 go_end0
 exact ⟨rfl, HF.out now, (HB3.out.setCell hbg _).setCell hbg _, fun k hk hn => ((Below.heap_setCell _ _ _ k (fun e => hn (e ▸ HOG.out))).trans (Below.heap_setCell _ _ _ k (fun e => hn (e ▸ HOG.out)))).trans (HO3.out k hk hn)⟩
end Go.Proofs.Ytjghephnjkffcaa.PCk
