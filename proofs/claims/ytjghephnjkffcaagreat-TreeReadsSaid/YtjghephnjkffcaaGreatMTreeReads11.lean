/- Parts of one proof, merged by a program of this repo: walks over the given program and plain facts. -/
import Derived.Test.YtjghephnjkffcaaGreatMTreeReads4
import Derived.Test.YtjghephnjkffcaaGreatMTreeReads10
import Derived.WalkSpells
import Derived.Test.YtjghephnjkffcaaGreatMTreeReads2
import Derived.Test.YtjghephnjkffcaaGreatMTreeReads9
import Derived.Test.YtjghephnjkffcaaGreatMTreeReads5
import Derived.Test.YtjghephnjkffcaaGreatMTreeReads8
import Derived.Test.YtjghephnjkffcaaGreatMTreeReads7
namespace Go.Proofs.YtjghephnjkffcaaGreat.PAll
open Go.RowKit Go.Proofs.YtjghephnjkffcaaGreatW.PrintWords Go.Proofs.YtjghephnjkffcaaGreatW.PrintLast Go.Proofs.YtjghephnjkffcaaGreatW.PrintMore
attribute [local go_sem] zbN zbL zb5 zb4 zbB zbA zbM zbK
set_option linter.unusedVariables false
set_option linter.unusedSimpArgs false
def zbg.f (k : Nat) (l0_0 : List (S40)) (a1 : Int) (a2 : Int) (a3 : Int) : Option (List Int × Int) := (zbf.f l0_0 a1).bind fun t311 => (if t311 = 0 then (if a2 < 0 then (some (([] : List Int), 28)) else (if a3 < 0 then (some (([] : List Int), 28)) else (if 0 ≤ a1 then (if a1 < (l0_0.length : Int) then (if 0 ≤ (mn a2 (((zak l0_0 a1).f1).length : Int)) then (if (mn a2 (((zak l0_0 a1).f1).length : Int)) ≤ (wrap64 ((mn a2 (((zak l0_0 a1).f1).length : Int)) + (mn a3 (wrap64 ((((zak l0_0 a1).f1).length : Int) - (mn a2 (((zak l0_0 a1).f1).length : Int))))))) then (if (wrap64 ((mn a2 (((zak l0_0 a1).f1).length : Int)) + (mn a3 (wrap64 ((((zak l0_0 a1).f1).length : Int) - (mn a2 (((zak l0_0 a1).f1).length : Int))))))) ≤ (((zak l0_0 a1).f1).length : Int) then ((zaD.f k ((((zak l0_0 a1).f1).take ((wrap64 ((mn a2 (((zak l0_0 a1).f1).length : Int)) + (mn a3 (wrap64 ((((zak l0_0 a1).f1).length : Int) - (mn a2 (((zak l0_0 a1).f1).length : Int))))))) : Int).toNat).drop ((mn a2 (((zak l0_0 a1).f1).length : Int)) : Int).toNat)).bind fun t314 => (some (t314, 0))) else (none)) else (none)) else (none)) else (none)) else (none)))) else (some (([] : List Int), t311)))
set_option maxHeartbeats 8000000 in
set_option maxRecDepth 100000 in
theorem zbg.calls (k : Nat) (A0_0 : Option Addr) (c0_0 : Nat) (l0_0 : List (S40)) (a1 : Int) (a2 : Int) (a3 : Int) (r1 : List Int) (r2 : Int) (w : World) (hr0_0 : Kd.C k40 w A0_0 l0_0.length l0_0) (hc0_0 : l0_0.length ≤ c0_0) (h : zbg.f k l0_0 a1 a2 a3 = some (r1, r2)) :
  Calls Tryz.prog 38 #[.agg #[.slice A0_0 l0_0.length c0_0], .int .i64 a1, .int .i64 a2, .int .i64 a3] w fun e w' => ∃ v0_ : Value, e = .returned (.tuple #[v0_, .int .i64 r2]) ∧ Kd.R (Kd.int .u8) 5 w' w.heap.size (fun _ => True) v0_ r1 ∧ Below w.heap.size w w' := by
 have hu24 := Tryz.underlying24
 have HR0_0 := zaa.mk hr0_0
 have HC0_0 := zaa.mk hc0_0
 clear hr0_0 hc0_0
 have HB := zaa.mk (Below.refl w.heap.size w)
 have H : ((zbf.f l0_0 a1).bind fun t311 => (if t311 = 0 then (if a2 < 0 then (some (([] : List Int), 28)) else (if a3 < 0 then (some (([] : List Int), 28)) else (if 0 ≤ a1 then (if a1 < (l0_0.length : Int) then (if 0 ≤ (mn a2 (((zak l0_0 a1).f1).length : Int)) then (if (mn a2 (((zak l0_0 a1).f1).length : Int)) ≤ (wrap64 ((mn a2 (((zak l0_0 a1).f1).length : Int)) + (mn a3 (wrap64 ((((zak l0_0 a1).f1).length : Int) - (mn a2 (((zak l0_0 a1).f1).length : Int))))))) then (if (wrap64 ((mn a2 (((zak l0_0 a1).f1).length : Int)) + (mn a3 (wrap64 ((((zak l0_0 a1).f1).length : Int) - (mn a2 (((zak l0_0 a1).f1).length : Int))))))) ≤ (((zak l0_0 a1).f1).length : Int) then ((zaD.f k ((((zak l0_0 a1).f1).take ((wrap64 ((mn a2 (((zak l0_0 a1).f1).length : Int)) + (mn a3 (wrap64 ((((zak l0_0 a1).f1).length : Int) - (mn a2 (((zak l0_0 a1).f1).length : Int))))))) : Int).toNat).drop ((mn a2 (((zak l0_0 a1).f1).length : Int)) : Int).toNat)).bind fun t314 => (some (t314, 0))) else (none)) else (none)) else (none)) else (none)) else (none)))) else (some (([] : List Int), t311)))) = some (r1, r2) := h
 clear h
 replace H := Option.bind_eq_some_iff.mp H
 obtain ⟨t311, A50, H⟩ := H
 replace H : (if t311 = 0 then (if a2 < 0 then (some (([] : List Int), 28)) else (if a3 < 0 then (some (([] : List Int), 28)) else (if 0 ≤ a1 then (if a1 < (l0_0.length : Int) then (if 0 ≤ (mn a2 (((zak l0_0 a1).f1).length : Int)) then (if (mn a2 (((zak l0_0 a1).f1).length : Int)) ≤ (wrap64 ((mn a2 (((zak l0_0 a1).f1).length : Int)) + (mn a3 (wrap64 ((((zak l0_0 a1).f1).length : Int) - (mn a2 (((zak l0_0 a1).f1).length : Int))))))) then (if (wrap64 ((mn a2 (((zak l0_0 a1).f1).length : Int)) + (mn a3 (wrap64 ((((zak l0_0 a1).f1).length : Int) - (mn a2 (((zak l0_0 a1).f1).length : Int))))))) ≤ (((zak l0_0 a1).f1).length : Int) then ((zaD.f k ((((zak l0_0 a1).f1).take ((wrap64 ((mn a2 (((zak l0_0 a1).f1).length : Int)) + (mn a3 (wrap64 ((((zak l0_0 a1).f1).length : Int) - (mn a2 (((zak l0_0 a1).f1).length : Int))))))) : Int).toNat).drop ((mn a2 (((zak l0_0 a1).f1).length : Int)) : Int).toNat)).bind fun t314 => (some (t314, 0))) else (none)) else (none)) else (none)) else (none)) else (none)))) else (some (([] : List Int), t311))) = some (r1, r2) := H
 have A5 := zaa.mk A50
 clear A50
 by_cases c6 : t311 = 0
 ·rw [if_pos c6] at H
  have c6b0 : (t311 == 0) = true := beq_iff_eq.mpr c6
  have c6b1 : (t311 != 0) = false := bne_eq_false_iff_eq.mpr c6
  clear c6
  by_cases c7 : a2 < 0
  ·rw [if_pos c7] at H
   have c7b0 : decide (a2 < 0) = true := decide_eq_true c7
   clear c7
   simp only [Option.some.injEq, Prod.mk.injEq] at H
   obtain ⟨rfl, rfl⟩ := H
   go_enter Tryz.func38, Tryz.ntmps38
   go_wp2_with (first | ((with_reducible refine zaV (N := 4) rfl ?_); refine zaI ?hg (N := 4) ?hd (cs := #[.slice A0_0 l0_0.length c0_0]) (t := 24) ?hr ?_; (case hd => rfl); (case hg => rfl); (case hr => first | (go_simp; done) | (go_simp; rfl)); intro gb310 hg w8 hbox hb; have n0_ := zaa.mk (zan (by repeat (first | (with_reducible first | exact HB.out | apply zac | apply zab | apply zae) | exact HB.out)) hb); have n1_ := zaa.mk (hbox); have n2_ := zaa.mk ((by rw [hg]; exact (zaq (by repeat (first | (with_reducible first | exact HB.out | apply zac | apply zab | apply zae) | exact HB.out))) : w.heap.size ≤ gb310)); have n3_ := zaa.mk ((by rw [hg]; exact (zaq (by repeat (first | (with_reducible first | exact HB.out | apply zac | apply zab | apply zae) | exact HB.out))) : w.heap.size ≤ gb310)); clear HB; have HB := n0_; have BK310 := n1_; have GW310 := n2_; have GE310 := n3_; clear n0_ n1_ n2_ n3_; clear hb hbox hg; have hcz9_0 : w8.cell? ⟨gb310, 0, none⟩ = some (.slice A0_0 l0_0.length c0_0) := (zad BK310.out 0).trans rfl; have hfz9_0 := zai BK310.out 0) | ((with_reducible refine za5 (f := 82) rfl ?_); refine zbP (some 14) rfl rfl Tryz.func82 (by kernel_rfl) rfl #[.agg #[.slice A0_0 l0_0.length c0_0], .int .i64 a1] rfl (by (try simp only [List.map_toArray, List.map_cons, List.map_nil]); first | done | rfl | (simp only [List.length_drop, List.length_take]; rfl)) ?_; (with_reducible refine (zbf.calls _ _ l0_0 a1 t311 _ ?side1 ?side2 A5.out).mono ?_); (case side1 => repeat (first | exact (Kd.C_below HR0_0.out HB.out) | (with_reducible refine Kd.C_alloc ?_ _) | (with_reducible refine Kd.C_drewN ?_ _) | (with_reducible refine Kd.C_drew ?_))); (case side2 => exact HC0_0.out); rintro e w10 ⟨rfl, hb⟩; refine ⟨_, rfl, ?_⟩; have n0_ := zaa.mk (zam (g := gb310) (o := .cells #[.slice A0_0 l0_0.length c0_0] 24 (0, 0)) (by (with_reducible repeat (first | refine zah ?_ _ | refine zaj ?_ | refine zaf ?_ _)); exact BK310.out) hb); have n1_ := zaa.mk (zan (by repeat (first | (with_reducible first | exact HB.out | apply zac | apply zab | apply zae | refine zal ?_ GE310.out) | exact HB.out)) hb); clear BK310; clear HB; have BK310 := n0_; have HB := n1_; clear n0_ n1_; (try clear hb); (try clear hb2); (try clear hk); (try clear hi)))
   go_ret2
   exact ⟨_, by first | rfl | (simp [zav, zau] <;> rfl) | (simp [*, zav, zau] <;> rfl), by first | exact Kd.R_nil _ _ _ _ _ | exact Kd.N_nil _ _ _ _ _ | exact Kd.V_nil _ _ _ _ _ | exact Kd.Q_nil _ _ _ _ _ | exact Kd.S_nil _ _ _ _ _, by repeat (first | (with_reducible first | exact HB.out | apply zac | apply zab | apply zae | refine zal ?_ GE310.out) | exact HB.out)⟩
  ·rw [if_neg c7] at H
   have c7b0 : decide (a2 < 0) = false := decide_eq_false c7
   clear c7
   by_cases c11 : a3 < 0
   ·rw [if_pos c11] at H
    have c11b0 : decide (a3 < 0) = true := decide_eq_true c11
    clear c11
    simp only [Option.some.injEq, Prod.mk.injEq] at H
    obtain ⟨rfl, rfl⟩ := H
    go_enter Tryz.func38, Tryz.ntmps38
    go_wp2_with (first | ((with_reducible refine zaV (N := 4) rfl ?_); refine zaI ?hg (N := 4) ?hd (cs := #[.slice A0_0 l0_0.length c0_0]) (t := 24) ?hr ?_; (case hd => rfl); (case hg => rfl); (case hr => first | (go_simp; done) | (go_simp; rfl)); intro gb310 hg w12 hbox hb; have n0_ := zaa.mk (zan (by repeat (first | (with_reducible first | exact HB.out | apply zac | apply zab | apply zae) | exact HB.out)) hb); have n1_ := zaa.mk (hbox); have n2_ := zaa.mk ((by rw [hg]; exact (zaq (by repeat (first | (with_reducible first | exact HB.out | apply zac | apply zab | apply zae) | exact HB.out))) : w.heap.size ≤ gb310)); have n3_ := zaa.mk ((by rw [hg]; exact (zaq (by repeat (first | (with_reducible first | exact HB.out | apply zac | apply zab | apply zae) | exact HB.out))) : w.heap.size ≤ gb310)); clear HB; have HB := n0_; have BK310 := n1_; have GW310 := n2_; have GE310 := n3_; clear n0_ n1_ n2_ n3_; clear hb hbox hg; have hcz13_0 : w12.cell? ⟨gb310, 0, none⟩ = some (.slice A0_0 l0_0.length c0_0) := (zad BK310.out 0).trans rfl; have hfz13_0 := zai BK310.out 0) | ((with_reducible refine za5 (f := 82) rfl ?_); refine zbP (some 14) rfl rfl Tryz.func82 (by kernel_rfl) rfl #[.agg #[.slice A0_0 l0_0.length c0_0], .int .i64 a1] rfl (by (try simp only [List.map_toArray, List.map_cons, List.map_nil]); first | done | rfl | (simp only [List.length_drop, List.length_take]; rfl)) ?_; (with_reducible refine (zbf.calls _ _ l0_0 a1 t311 _ ?side1 ?side2 A5.out).mono ?_); (case side1 => repeat (first | exact (Kd.C_below HR0_0.out HB.out) | (with_reducible refine Kd.C_alloc ?_ _) | (with_reducible refine Kd.C_drewN ?_ _) | (with_reducible refine Kd.C_drew ?_))); (case side2 => exact HC0_0.out); rintro e w14 ⟨rfl, hb⟩; refine ⟨_, rfl, ?_⟩; have n0_ := zaa.mk (zam (g := gb310) (o := .cells #[.slice A0_0 l0_0.length c0_0] 24 (0, 0)) (by (with_reducible repeat (first | refine zah ?_ _ | refine zaj ?_ | refine zaf ?_ _)); exact BK310.out) hb); have n1_ := zaa.mk (zan (by repeat (first | (with_reducible first | exact HB.out | apply zac | apply zab | apply zae | refine zal ?_ GE310.out) | exact HB.out)) hb); clear BK310; clear HB; have BK310 := n0_; have HB := n1_; clear n0_ n1_; (try clear hb); (try clear hb2); (try clear hk); (try clear hi)))
    go_ret2
    exact ⟨_, by first | rfl | (simp [zav, zau] <;> rfl) | (simp [*, zav, zau] <;> rfl), by first | exact Kd.R_nil _ _ _ _ _ | exact Kd.N_nil _ _ _ _ _ | exact Kd.V_nil _ _ _ _ _ | exact Kd.Q_nil _ _ _ _ _ | exact Kd.S_nil _ _ _ _ _, by repeat (first | (with_reducible first | exact HB.out | apply zac | apply zab | apply zae | refine zal ?_ GE310.out) | exact HB.out)⟩
   ·rw [if_neg c11] at H
    have c11b0 : decide (a3 < 0) = false := decide_eq_false c11
    clear c11
    by_cases c15 : 0 ≤ a1
    ·rw [if_pos c15] at H
     have c15b0 : decide (0 ≤ a1) = true := decide_eq_true c15
     clear c15
     by_cases c16 : a1 < (l0_0.length : Int)
     ·rw [if_pos c16] at H
      have c16b0 : decide (a1 < (l0_0.length : Int)) = true := decide_eq_true c16
      clear c16
      obtain ⟨ji17, hji17⟩ : ∃ j_ : Int, (mn a2 (((zak l0_0 a1).f1).length : Int)) = j_ := ⟨_, rfl⟩
      replace H : (if 0 ≤ (ji17) then (if (ji17) ≤ (wrap64 ((ji17) + (mn a3 (wrap64 ((((zak l0_0 a1).f1).length : Int) - (ji17)))))) then (if (wrap64 ((ji17) + (mn a3 (wrap64 ((((zak l0_0 a1).f1).length : Int) - (ji17)))))) ≤ (((zak l0_0 a1).f1).length : Int) then ((zaD.f k ((((zak l0_0 a1).f1).take ((wrap64 ((ji17) + (mn a3 (wrap64 ((((zak l0_0 a1).f1).length : Int) - (ji17)))))) : Int).toNat).drop ((ji17) : Int).toNat)).bind fun t314 => (some (t314, 0))) else (none)) else (none)) else (none)) = some (r1, r2) := by first | (rw [hji17] at H; exact H) | (simp only [hji17] at H ⊢; exact H)
      (try rw [hji17] at A5)
      have hji17_ : (if (((zak l0_0 a1).f1).length : Int) < a2 then (((zak l0_0 a1).f1).length : Int) else a2) = ji17 := hji17
      obtain ⟨ji18, hji18⟩ : ∃ j_ : Int, (mn a3 (wrap64 ((((zak l0_0 a1).f1).length : Int) - (ji17)))) = j_ := ⟨_, rfl⟩
      replace H : (if 0 ≤ (ji17) then (if (ji17) ≤ (wrap64 ((ji17) + (ji18))) then (if (wrap64 ((ji17) + (ji18))) ≤ (((zak l0_0 a1).f1).length : Int) then ((zaD.f k ((((zak l0_0 a1).f1).take ((wrap64 ((ji17) + (ji18))) : Int).toNat).drop ((ji17) : Int).toNat)).bind fun t314 => (some (t314, 0))) else (none)) else (none)) else (none)) = some (r1, r2) := by first | (rw [hji18] at H; exact H) | (simp only [hji18] at H ⊢; exact H)
      (try rw [hji18] at A5)
      have hji18_ : (if (wrap64 ((((zak l0_0 a1).f1).length : Int) - (ji17))) < a3 then (wrap64 ((((zak l0_0 a1).f1).length : Int) - (ji17))) else a3) = ji18 := hji18
      by_cases c19 : 0 ≤ (ji17)
      ·rw [if_pos c19] at H
       have c19b0 := eq_true c19
       have c19b1 : decide (0 ≤ (ji17)) = true := decide_eq_true c19
       clear c19
       by_cases c20 : (ji17) ≤ (wrap64 ((ji17) + (ji18)))
       ·rw [if_pos c20] at H
        have c20b0 := eq_true c20
        have c20b1 : decide ((ji17) ≤ (wrap64 ((ji17) + (ji18)))) = true := decide_eq_true c20
        by_cases c21 : (wrap64 ((ji17) + (ji18))) ≤ (((zak l0_0 a1).f1).length : Int)
        ·rw [if_pos c21] at H
         have c21b0 := eq_true c21
         have c21b1 : decide ((wrap64 ((ji17) + (ji18))) ≤ (((zak l0_0 a1).f1).length : Int)) = true := decide_eq_true c21
         replace H := Option.bind_eq_some_iff.mp H
         obtain ⟨t314, A220, H⟩ := H
         replace H : (some (t314, 0)) = some (r1, r2) := H
         have A22 := zaa.mk A220
         clear A220
         simp only [Option.some.injEq, Prod.mk.injEq] at H
         obtain ⟨rfl, rfl⟩ := H
         go_enter Tryz.func38, Tryz.ntmps38
         go_wp2_with (first | ((with_reducible refine zaV (N := 4) rfl ?_); refine zaI ?hg (N := 4) ?hd (cs := #[.slice A0_0 l0_0.length c0_0]) (t := 24) ?hr ?_; (case hd => rfl); (case hg => rfl); (case hr => first | (go_simp; done) | (go_simp; rfl)); intro gb310 hg w23 hbox hb; have n0_ := zaa.mk (zan (by repeat (first | (with_reducible first | exact HB.out | apply zac | apply zab | apply zae) | exact HB.out)) hb); have n1_ := zaa.mk (hbox); have n2_ := zaa.mk ((by rw [hg]; exact (zaq (by repeat (first | (with_reducible first | exact HB.out | apply zac | apply zab | apply zae) | exact HB.out))) : w.heap.size ≤ gb310)); have n3_ := zaa.mk ((by rw [hg]; exact (zaq (by repeat (first | (with_reducible first | exact HB.out | apply zac | apply zab | apply zae) | exact HB.out))) : w.heap.size ≤ gb310)); clear HB; have HB := n0_; have BK310 := n1_; have GW310 := n2_; have GE310 := n3_; clear n0_ n1_ n2_ n3_; clear hb hbox hg; have hcz24_0 : w23.cell? ⟨gb310, 0, none⟩ = some (.slice A0_0 l0_0.length c0_0) := (zad BK310.out 0).trans rfl; have hfz24_0 := zai BK310.out 0) | ((with_reducible refine za5 (f := 82) rfl ?_); refine zbP (some 14) rfl rfl Tryz.func82 (by kernel_rfl) rfl #[.agg #[.slice A0_0 l0_0.length c0_0], .int .i64 a1] rfl (by (try simp only [List.map_toArray, List.map_cons, List.map_nil]); first | done | rfl | (simp only [List.length_drop, List.length_take]; rfl)) ?_; (with_reducible refine (zbf.calls _ _ l0_0 a1 t311 _ ?side1 ?side2 A5.out).mono ?_); (case side1 => repeat (first | exact (Kd.C_below HR0_0.out HB.out) | (with_reducible refine Kd.C_alloc ?_ _) | (with_reducible refine Kd.C_drewN ?_ _) | (with_reducible refine Kd.C_drew ?_))); (case side2 => exact HC0_0.out); rintro e w25 ⟨rfl, hb⟩; refine ⟨_, rfl, ?_⟩; have n0_ := zaa.mk (zam (g := gb310) (o := .cells #[.slice A0_0 l0_0.length c0_0] 24 (0, 0)) (by (with_reducible repeat (first | refine zah ?_ _ | refine zaj ?_ | refine zaf ?_ _)); exact BK310.out) hb); have n1_ := zaa.mk (zan (by repeat (first | (with_reducible first | exact HB.out | apply zac | apply zab | apply zae | refine zal ?_ GE310.out) | exact HB.out)) hb); clear BK310; clear HB; have BK310 := n0_; have HB := n1_; clear n0_ n1_; (try clear hb); (try clear hb2); (try clear hk); (try clear hi); have hcz26_0 : w25.cell? ⟨gb310, 0, none⟩ = some (.slice A0_0 l0_0.length c0_0) := (zad BK310.out 0).trans rfl; have hfz26_0 := zai BK310.out 0; have p312 : 0 ≤ (a1 : Int) := of_decide_eq_true (by first | (with_reducible assumption) | assumption); have q312 : a1 < (l0_0.length : Int) := of_decide_eq_true (by first | (with_reducible assumption) | assumption); obtain ⟨ad312, A312_1, c312_1, A312_2, c312_2, e312, hx312_0, hx312_1, hx312_2, hx312_3, hx312_4, hx312_5, hl312_1, hi312_1, hl312_2, hi312_2⟩ := zbs HR0_0.out a1 p312 q312; cases e312; replace hx312_0 := (HB.out.cell (World.block_lt_of_cell? w _ hx312_0)).trans hx312_0; replace hx312_1 := (HB.out.cell (World.block_lt_of_cell? w _ hx312_1)).trans hx312_1; replace hx312_2 := (HB.out.cell (World.block_lt_of_cell? w _ hx312_2)).trans hx312_2; replace hx312_3 := (HB.out.cell (World.block_lt_of_cell? w _ hx312_3)).trans hx312_3; replace hx312_4 := (HB.out.cell (World.block_lt_of_cell? w _ hx312_4)).trans hx312_4; replace hx312_5 := (HB.out.cell (World.block_lt_of_cell? w _ hx312_5)).trans hx312_5; have HR312_1 := zaa.mk hi312_1; have HC312_1 := zaa.mk hl312_1; clear hi312_1 hl312_1; have HR312_2 := zaa.mk hi312_2; have HC312_2 := zaa.mk hl312_2; clear hi312_2 hl312_2; replace p312 := eq_true p312; replace q312 := eq_true q312; obtain ⟨i027, hi027, _, hsz27, _⟩ := info_parts info5; obtain ⟨A27, hcut27, hA27, hC27⟩ := print_mid_of (P := Tryz.prog) (Value.int .u8) 0 37 5 .i64 .i64 Tryz.underlying37 hi027 hsz27 A312_1 c312_1 ((zak l0_0 a1).f1) (ji17) (wrap64 ((ji17) + (ji18))) (of_decide_eq_true (by first | (with_reducible assumption) | assumption)) (by first | omega | exact of_decide_eq_true (by first | (with_reducible assumption) | assumption)) (of_decide_eq_true (by first | (with_reducible assumption) | assumption)) HC312_1.out; have HR313 := zaa.mk (Kd.C_of_reads (h1 := fun _ => rfl) (hA27 _ (Kd.reads_of_C HR312_1.out))); have HC313 := zaa.mk hC27; clear hA27 hC27 hi027 hsz27) | ((with_reducible refine za5 (f := 43) rfl ?_); refine zbP (some 46) rfl rfl Tryz.func43 (by kernel_rfl) rfl #[.slice A27 ((((zak l0_0 a1).f1).take ((wrap64 ((ji17) + (ji18))) : Int).toNat).drop ((ji17) : Int).toNat).length (c312_1 - (ji17).toNat)] rfl (by (try simp only [List.map_toArray, List.map_cons, List.map_nil]); first | done | (rw [show ((((zak l0_0 a1).f1).take ((wrap64 ((ji17) + (ji18))) : Int).toNat).drop ((ji17) : Int).toNat).length = ((wrap64 ((ji17) + (ji18))).toNat - (ji17).toNat) from (by rw [List.length_drop, List.length_take]; have h_ : ((wrap64 ((ji17) + (ji18))) : Int) ≤ (((zak l0_0 a1).f1).length : Int) := of_decide_eq_true (by first | (with_reducible assumption) | assumption); omega)] <;> rfl) | (simp only [hji17, hji18]; rfl) | rfl | (simp only [List.length_drop, List.length_take]; rfl)) ?_; (with_reducible refine (zaD.calls k _ _ ((((zak l0_0 a1).f1).take ((wrap64 ((ji17) + (ji18))) : Int).toNat).drop ((ji17) : Int).toNat) t314 _ ?side1 ?side2 A22.out).mono ?_); (case side1 => repeat (first | exact (Kd.C_below HR313.out HB.out) | (with_reducible refine Kd.C_alloc ?_ _) | (with_reducible refine Kd.C_drewN ?_ _) | (with_reducible refine Kd.C_drew ?_))); (case side2 => exact HC313.out); rintro e w28 ⟨v315, rfl, ho0, hb⟩; refine ⟨_, rfl, ?_⟩; have n0_ := zaa.mk (Kd.zch ho0 (zaq (by repeat (first | (with_reducible first | exact HB.out | apply zac | apply zab | apply zae | refine zal ?_ GE310.out) | exact HB.out)))); have n1_ := zaa.mk (zam (g := gb310) (o := .cells #[.slice (some ad312) l0_0.length c0_0] 24 (0, 0)) (by (with_reducible repeat (first | refine zah ?_ _ | refine zaj ?_ | refine zaf ?_ _)); exact BK310.out) hb); have n2_ := zaa.mk (zan (by repeat (first | (with_reducible first | exact HB.out | apply zac | apply zab | apply zae | refine zal ?_ GE310.out) | exact HB.out)) hb); clear BK310; clear HB; have HO316 := n0_; have BK310 := n1_; have HB := n2_; clear n0_ n1_ n2_; (try clear hb); (try clear hb2); (try clear hk); (try clear hi); (try clear ho0)))
         go_ret2
         exact ⟨_, by first | rfl | (simp [zav, zau] <;> rfl) | (simp only [← hji17, ← hji18]; first | rfl | (simp [zav, zau] <;> rfl)) | (simp [*, zav, zau] <;> rfl), by (with_reducible repeat (first | apply Kd.zbD | apply Kd.zbH | apply Kd.zb2)); exact HO316.out, by repeat (first | (with_reducible first | exact HB.out | apply zac | apply zab | apply zae | refine zal ?_ GE310.out) | exact HB.out)⟩
        ·rw [if_neg c21] at H
         exact absurd H (by simp)
       ·rw [if_neg c20] at H
        exact absurd H (by simp)
      ·rw [if_neg c19] at H
       exact absurd H (by simp)
     ·rw [if_neg c16] at H
      exact absurd H (by simp)
    ·rw [if_neg c15] at H
     exact absurd H (by simp)
 ·rw [if_neg c6] at H
  have c6b0 : (t311 == 0) = false := beq_eq_false_iff_ne.mpr c6
  have c6b1 : (t311 != 0) = true := bne_iff_ne.mpr c6
  simp only [Option.some.injEq, Prod.mk.injEq] at H
  obtain ⟨rfl, rfl⟩ := H
  go_enter Tryz.func38, Tryz.ntmps38
  go_wp2_with (first | ((with_reducible refine zaV (N := 4) rfl ?_); refine zaI ?hg (N := 4) ?hd (cs := #[.slice A0_0 l0_0.length c0_0]) (t := 24) ?hr ?_; (case hd => rfl); (case hg => rfl); (case hr => first | (go_simp; done) | (go_simp; rfl)); intro gb310 hg w29 hbox hb; have n0_ := zaa.mk (zan (by repeat (first | (with_reducible first | exact HB.out | apply zac | apply zab | apply zae) | exact HB.out)) hb); have n1_ := zaa.mk (hbox); have n2_ := zaa.mk ((by rw [hg]; exact (zaq (by repeat (first | (with_reducible first | exact HB.out | apply zac | apply zab | apply zae) | exact HB.out))) : w.heap.size ≤ gb310)); have n3_ := zaa.mk ((by rw [hg]; exact (zaq (by repeat (first | (with_reducible first | exact HB.out | apply zac | apply zab | apply zae) | exact HB.out))) : w.heap.size ≤ gb310)); clear HB; have HB := n0_; have BK310 := n1_; have GW310 := n2_; have GE310 := n3_; clear n0_ n1_ n2_ n3_; clear hb hbox hg; have hcz30_0 : w29.cell? ⟨gb310, 0, none⟩ = some (.slice A0_0 l0_0.length c0_0) := (zad BK310.out 0).trans rfl; have hfz30_0 := zai BK310.out 0) | ((with_reducible refine za5 (f := 82) rfl ?_); refine zbP (some 14) rfl rfl Tryz.func82 (by kernel_rfl) rfl #[.agg #[.slice A0_0 l0_0.length c0_0], .int .i64 a1] rfl (by (try simp only [List.map_toArray, List.map_cons, List.map_nil]); first | done | rfl | (simp only [List.length_drop, List.length_take]; rfl)) ?_; (with_reducible refine (zbf.calls _ _ l0_0 a1 t311 _ ?side1 ?side2 A5.out).mono ?_); (case side1 => repeat (first | exact (Kd.C_below HR0_0.out HB.out) | (with_reducible refine Kd.C_alloc ?_ _) | (with_reducible refine Kd.C_drewN ?_ _) | (with_reducible refine Kd.C_drew ?_))); (case side2 => exact HC0_0.out); rintro e w31 ⟨rfl, hb⟩; refine ⟨_, rfl, ?_⟩; have n0_ := zaa.mk (zam (g := gb310) (o := .cells #[.slice A0_0 l0_0.length c0_0] 24 (0, 0)) (by (with_reducible repeat (first | refine zah ?_ _ | refine zaj ?_ | refine zaf ?_ _)); exact BK310.out) hb); have n1_ := zaa.mk (zan (by repeat (first | (with_reducible first | exact HB.out | apply zac | apply zab | apply zae | refine zal ?_ GE310.out) | exact HB.out)) hb); clear BK310; clear HB; have BK310 := n0_; have HB := n1_; clear n0_ n1_; (try clear hb); (try clear hb2); (try clear hk); (try clear hi)))
  go_ret2
  exact ⟨_, by first | rfl | (simp [zav, zau] <;> rfl) | (simp [*, zav, zau] <;> rfl), by first | exact Kd.R_nil _ _ _ _ _ | exact Kd.N_nil _ _ _ _ _ | exact Kd.V_nil _ _ _ _ _ | exact Kd.Q_nil _ _ _ _ _ | exact Kd.S_nil _ _ _ _ _, by repeat (first | (with_reducible first | exact HB.out | apply zac | apply zab | apply zae | refine zal ?_ GE310.out) | exact HB.out)⟩
def tree_file.f (l0_0 : List (S40)) (a1 : Int) : Option (Int) := if 0 ≤ a1 then (if a1 < (l0_0.length : Int) then (if ((zak l0_0 a1).f0) = 2 then (some 31) else (if ((zak l0_0 a1).f0) = 3 then (some 28) else (some 0))) else (none)) else (none)
set_option maxHeartbeats 8000000 in
set_option maxRecDepth 100000 in
theorem tree_file.calls (A0_0 : Option Addr) (c0_0 : Nat) (l0_0 : List (S40)) (a1 : Int) (r : Int) (w : World) (hr0_0 : Kd.C k40 w A0_0 l0_0.length l0_0) (hc0_0 : l0_0.length ≤ c0_0) (h : tree_file.f l0_0 a1 = some r) :
  Calls Tryz.prog 83 #[.agg #[.slice A0_0 l0_0.length c0_0], .int .i64 a1] w fun e w' => e = .returned (.int .i64 r) ∧ Below w.heap.size w w' := by
 have hu24 := Tryz.underlying24
 have HR0_0 := zaa.mk hr0_0
 have HC0_0 := zaa.mk hc0_0
 clear hr0_0 hc0_0
 have HB := zaa.mk (Below.refl w.heap.size w)
 have H : (if 0 ≤ a1 then (if a1 < (l0_0.length : Int) then (if ((zak l0_0 a1).f0) = 2 then (some 31) else (if ((zak l0_0 a1).f0) = 3 then (some 28) else (some 0))) else (none)) else (none)) = some r := h
 clear h
 by_cases c3 : 0 ≤ a1
 focus
  rw [if_pos c3] at H
  have c3b0 : decide (0 ≤ a1) = true := decide_eq_true c3
  clear c3
  by_cases c4 : a1 < (l0_0.length : Int)
  focus
   rw [if_pos c4] at H
   have c4b0 : decide (a1 < (l0_0.length : Int)) = true := decide_eq_true c4
   clear c4
   by_cases c5 : ((zak l0_0 a1).f0) = 2
   focus
    rw [if_pos c5] at H
    have c5b0 : (((zak l0_0 a1).f0) == 2) = true := beq_iff_eq.mpr c5
    have c5b1 : (((zak l0_0 a1).f0) != 2) = false := bne_eq_false_iff_eq.mpr c5
    clear c5
    obtain rfl := Option.some.inj H
   rotate_left 1
   focus
    rw [if_neg c5] at H
    have c5b0 : (((zak l0_0 a1).f0) == 2) = false := beq_eq_false_iff_ne.mpr c5
    have c5b1 : (((zak l0_0 a1).f0) != 2) = true := bne_iff_ne.mpr c5
    by_cases c8 : ((zak l0_0 a1).f0) = 3
    focus
     rw [if_pos c8] at H
     have c8b0 : (((zak l0_0 a1).f0) == 3) = true := beq_iff_eq.mpr c8
     have c8b1 : (((zak l0_0 a1).f0) != 3) = false := bne_eq_false_iff_eq.mpr c8
     clear c8
     obtain rfl := Option.some.inj H
    rotate_left 1
    focus
     rw [if_neg c8] at H
     have c8b0 : (((zak l0_0 a1).f0) == 3) = false := beq_eq_false_iff_ne.mpr c8
     have c8b1 : (((zak l0_0 a1).f0) != 3) = true := bne_iff_ne.mpr c8
     obtain rfl := Option.some.inj H
  rotate_left 3
  ·rw [if_neg c4] at H
   exact absurd H (by simp)
 rotate_left 3
 ·rw [if_neg c3] at H
  exact absurd H (by simp)
 all_goals
  go_enter Tryz.func83, Tryz.ntmps83
  go_wp2_with (first | ((with_reducible refine zaV (N := 2) rfl ?_); refine zaI ?hg (N := 2) ?hd (cs := #[.slice A0_0 l0_0.length c0_0]) (t := 24) ?hr ?_; (case hd => rfl); (case hg => rfl); (case hr => first | (go_simp; done) | (go_simp; rfl)); intro gb317 hg wq1 hbox hb; have n0_ := zaa.mk (zan (by repeat (first | (with_reducible first | exact HB.out | apply zac | apply zab | apply zae) | exact HB.out)) hb); have n1_ := zaa.mk (hbox); have n2_ := zaa.mk ((by rw [hg]; exact (zaq (by repeat (first | (with_reducible first | exact HB.out | apply zac | apply zab | apply zae) | exact HB.out))) : w.heap.size ≤ gb317)); have n3_ := zaa.mk ((by rw [hg]; exact (zaq (by repeat (first | (with_reducible first | exact HB.out | apply zac | apply zab | apply zae) | exact HB.out))) : w.heap.size ≤ gb317)); clear HB; have HB := n0_; have BK317 := n1_; have GW317 := n2_; have GE317 := n3_; clear n0_ n1_ n2_ n3_; clear hb hbox hg; have hczq2_0 : wq1.cell? ⟨gb317, 0, none⟩ = some (.slice A0_0 l0_0.length c0_0) := (zad BK317.out 0).trans rfl; have hfzq2_0 := zai BK317.out 0; have p318 : 0 ≤ (a1 : Int) := of_decide_eq_true (by first | (with_reducible assumption) | assumption); have q318 : a1 < (l0_0.length : Int) := of_decide_eq_true (by first | (with_reducible assumption) | assumption); obtain ⟨ad318, A318_1, c318_1, A318_2, c318_2, e318, hx318_0, hx318_1, hx318_2, hx318_3, hx318_4, hx318_5, hl318_1, hi318_1, hl318_2, hi318_2⟩ := zbs HR0_0.out a1 p318 q318; cases e318; replace hx318_0 := (HB.out.cell (World.block_lt_of_cell? w _ hx318_0)).trans hx318_0; replace hx318_1 := (HB.out.cell (World.block_lt_of_cell? w _ hx318_1)).trans hx318_1; replace hx318_2 := (HB.out.cell (World.block_lt_of_cell? w _ hx318_2)).trans hx318_2; replace hx318_3 := (HB.out.cell (World.block_lt_of_cell? w _ hx318_3)).trans hx318_3; replace hx318_4 := (HB.out.cell (World.block_lt_of_cell? w _ hx318_4)).trans hx318_4; replace hx318_5 := (HB.out.cell (World.block_lt_of_cell? w _ hx318_5)).trans hx318_5; have HR318_1 := zaa.mk hi318_1; have HC318_1 := zaa.mk hl318_1; clear hi318_1 hl318_1; have HR318_2 := zaa.mk hi318_2; have HC318_2 := zaa.mk hl318_2; clear hi318_2 hl318_2; replace p318 := eq_true p318; replace q318 := eq_true q318))
  go_ret
  exact ⟨by first | rfl | (simp [zav, zau] <;> rfl) | (simp [*, zav, zau] <;> rfl), by repeat (first | (with_reducible first | exact HB.out | apply zac | apply zab | apply zae | refine zal ?_ GE317.out) | exact HB.out)⟩
def zbz.f (l0 : List Int) : Option (List Int) := if l0.length < 140737488355328 then some l0 else none
set_option maxHeartbeats 1000000 in
set_option maxRecDepth 100000 in
theorem zbz.calls (A0 : Option Addr) (c0 : Nat) (l0 : List Int) (r : List Int) (w : World) (hr0 : Kd.C (Kd.int .u8) w A0 l0.length l0) (hc0 : l0.length ≤ c0) (h : zbz.f l0 = some r) :
  Calls Tryz.prog 84 #[.slice A0 l0.length c0] w fun e w' => ∃ v0_ : Value, e = .returned (v0_) ∧ Kd.R (Kd.int .u8) 5 w' w.heap.size (fun _ => True) v0_ r ∧ Below w.heap.size w w' := by
 unfold zbz.f at h
 split at h
 ·rename_i hlt
  obtain rfl := Option.some.inj h
  have HL := zaa.mk hlt
  have HR := zaa.mk hr0
  have HC := zaa.mk hc0
  clear hlt hr0 hc0 h
  have h1 := fun (w : World) (a : Option Addr) (n c n' c' : Nat) => Lib.run_eql_slice_nil (P := Tryz.prog) w 37 5 a n c n' c' Tryz.underlying37
  have HN : zaa (A0 = none → l0 = []) := ⟨fun e => by
   by_cases hz : 0 < l0.length
   ·obtain ⟨ad, h, _⟩ := HR.out.2.2 hz
    rw [e] at h; cases h
   ·exact List.eq_nil_of_length_eq_zero (by omega)⟩
  go_enter Tryz.func84, Tryz.ntmps84
  cases A0 with
  | none =>
   obtain rfl := HN.out rfl
   go_wp2
   go_ret
   exact ⟨_, rfl, Kd.R_nil _ _ _ _ _, Below.refl _ _⟩
  | some ad =>
   go_wp2_with (first | (at_builtin; refine Kd.R_append_row (Value.int .u8) (0 : Int) (h1 := fun _ => rfl) (w0 := w) w.heap.size rfl (.tmp 5) (.tmp 6) 37 5 (.int .u8 0) 1 rfl Tryz.underlying37 info5 rfl (by decide) (.slice (some ⟨w.heap.size, 0, none⟩) 0 0) [] l0 (some ad) l0.length c0 (fun _ => True) rfl rfl (fun _ _ => trivial) ?ho ?hr ?hb ?hs ?hl ?_; (case hr => exact Kd.C_below HR.out (zac (Below.refl _ _) _)); (case hb => exact zac (Below.refl _ _) _); (case hs => simp); (case hl => have := HL.out; simp; omega); (case ho => exact Kd.R_of_own (own_lit w w.heap.size 5 .u8 [] (Nat.le_refl _) (by decide)) (fun _ _ => trivial)); intro v1 w1 hR hB hg hat))
   go_ret
   exact ⟨_, rfl, hR, hB⟩
 ·cases h
def readL (b : List Int) (t n : Nat) : List Int := (b.drop (min t b.length)).take (min n (b.length - min t b.length))
def zby.f (k : Nat) (l0_0 : List S40) (a1 : Int) (a2 : Int) (a3 : Int) : Option (List Int × Int) :=
 (zbx.f k l0_0 [a1]).bind fun m => if m = true then (tree_file.f l0_0 a1).bind fun e => (if e = 0 then (if a2 < 0 then some ([], 28) else if a3 < 0 then some ([], 28) else if 0 ≤ a1 ∧ a1 < (l0_0.length : Int) ∧ (zak l0_0 a1).f1.length ≤ 1000000 then some (readL (zak l0_0 a1).f1 a2.toNat a3.toNat, 0) else none) else some ([], e)) else some ([], 100)
theorem cut_any (A : Option Addr) (c : Nat) (xs : List Int) (j : Nat) (hj : j ≤ xs.length) (hc : xs.length ≤ c) : ∃ (A' : Option Addr) (n' c' : Nat), (∀ W : World, (Instr.slice 37 (.slice A xs.length c) (some (.int .i64 (j : Int))) none none).run Tryz.prog W = .ok (.slice A' n' c') W) ∧ zaa (n' = xs.length - j) ∧ zaa (n' ≤ c') ∧ ∀ W, Kd.C (Kd.int .u8) W A xs.length xs → Kd.C (Kd.int .u8) W A' n' (xs.drop j) := by
 obtain ⟨i0, hi0, _, hsz, _⟩ := info_parts info5
 refine ⟨_, _, _, cut_from (P := Tryz.prog) 37 5 .i64 Tryz.underlying37 hi0 1 hsz A xs.length c (j : Int) (by omega) (by omega), ⟨by rw [Int.toNat_natCast]⟩, ⟨by rw [Int.toNat_natCast]; omega⟩, fun W h => ?_⟩
 have h2 := Kd.C_drop h hj hc
 rw [Int.toNat_natCast]
 rw [List.length_drop] at h2
 exact h2
theorem cut_up (A : Option Addr) (n c j : Nat) (hj : j ≤ n) (hc : n ≤ c) : ∀ W : World, (Instr.slice 37 (.slice A n c) none (some (.int .i64 (j : Int))) none).run Tryz.prog W = .ok (.slice A j c) W := by
 obtain ⟨i0, hi0, _, hsz, _⟩ := info_parts info5
 have h := cut_to (P := Tryz.prog) 37 5 .i64 Tryz.underlying37 hi0 A n c (j : Int) (by omega) (by omega) hc
 rw [Int.toNat_natCast] at h
 exact h
set_option maxHeartbeats 8000000 in
set_option maxRecDepth 100000 in
theorem zby.calls (k : Nat) (A0_0 : Option Addr) (c0_0 : Nat) (l0_0 : List S40) (a1 : Int) (a2 : Int) (a3 : Int) (r1 : List Int) (r2 : Int) (w : World) (hr0_0 : Kd.C k40 w A0_0 l0_0.length l0_0) (hc0_0 : l0_0.length ≤ c0_0) (h : zby.f k l0_0 a1 a2 a3 = some (r1, r2)) :
  Calls Tryz.prog 39 #[.agg #[.slice A0_0 l0_0.length c0_0], .int .i64 a1, .int .i64 a2, .int .i64 a3] w fun e w' => ∃ v0_ : Value, e = .returned (.tuple #[v0_, .int .i64 r2]) ∧ Kd.R (Kd.int .u8) 5 w' w.heap.size (fun _ => True) v0_ r1 ∧ Below w.heap.size w w' := by
 obtain ⟨m, hm, h⟩ := Option.bind_eq_some_iff.mp h
 have HR := zaa.mk hr0_0
 have HC := zaa.mk hc0_0
 have HM := zaa.mk hm
 have hut := Tryz.underlying24
 have hun := Tryz.underlying40
 have hsi := Tryz.underlying95
 have HW := zaa.mk (zac (Below.refl w.heap.size w) (.cells #[.slice A0_0 l0_0.length c0_0] 24))
 have HD := zaa.mk (Kd.zbO (R_of_blk (xs := [a1]) (k := .i64) (base := 0) (zbc (w.alloc (.cells #[.slice A0_0 l0_0.length c0_0] 24)) (.cells #[.int .i64 a1] 3)) (Nat.zero_le _) (by simp))).2.2
 rw [World.size_alloc] at HD
 have HK := zaa.mk (zaf (zbc w (.cells #[.slice A0_0 l0_0.length c0_0] 24)) (.cells #[.int .i64 a1] 3))
 clear hr0_0 hc0_0 hm
 cases m with
 | false =>
  have h1 : some (([] : List Int), (100 : Int)) = some (r1, r2) := h
  injection (Option.some.inj h1) with e1 e2
  subst e1; subst e2
  clear h h1
  go_enter Tryz.func39, Tryz.ntmps39
  go_wp2_with (first | (go_at_call 66; refine (zbx.calls k _ c0_0 l0_0 (some ⟨w.heap.size + 1, 0, none⟩) 1 [a1] _ _ (Kd.C_below HR.out (by repeat (first | exact HW.out | apply zac))) HC.out HD.out (by simp) HM.out).mono ?_; rintro e' w1 ⟨rfl, hb⟩; have HB := zaa.mk (zan (zac HW.out _) hb); have hct := (zad (zam HK.out hb) 0).trans rfl; have HK1 := zaa.mk (zam HK.out hb); clear hb))
  go_ret2
  exact ⟨_, rfl, Kd.R_nil _ _ _ _ _, HB.out⟩
 | true =>
  obtain ⟨e, he, h⟩ := Option.bind_eq_some_iff.mp (show (tree_file.f l0_0 a1).bind _ = some (r1, r2) from h)
  have HE := zaa.mk he
  clear he
  by_cases z1 : e = 0
  focus
   rw [if_pos z1] at h
   have Z1 : (e != 0) = false := by simpa using z1
   by_cases z2 : a2 < 0
   focus
    have Z2 : decide (a2 < 0) = true := decide_eq_true z2
    rw [if_pos z2] at h
    injection (Option.some.inj h) with e1 e2
    subst e1; subst e2
    clear h z1 z2
   rotate_left 1
   focus
    have Z2 : decide (a2 < 0) = false := decide_eq_false z2
    rw [if_neg z2] at h
    by_cases z3 : a3 < 0
    focus
     have Z3 : decide (a3 < 0) = true := decide_eq_true z3
     rw [if_pos z3] at h
     injection (Option.some.inj h) with e1 e2
     subst e1; subst e2
     clear h z1 z2 z3
    rotate_left 1
    ·have Z3 : decide (a3 < 0) = false := decide_eq_false z3
     rw [if_neg z3] at h
     split at h
     ·rename_i hg
      obtain ⟨g0, g1, g2⟩ := hg
      injection (Option.some.inj h) with e1 e2
      subst e2
      have HRES := zaa.mk e1
      obtain ⟨t, rfl⟩ : ∃ t : Nat, a2 = (t : Int) := ⟨a2.toNat, by omega⟩
      obtain ⟨s, rfl⟩ : ∃ s : Nat, a3 = (s : Int) := ⟨a3.toNat, by omega⟩
      obtain ⟨na, A1, c1, A2, c2, rfl, hx0, hx1, hx2, hx3, hx4, hx5, hl1, hi1, hl2, hi2⟩ := zbs HR.out a1 g0 g1
      have HX1 := zaa.mk hx1
      have HI1 := zaa.mk hi1
      obtain ⟨M1, hM1⟩ : ∃ M1, M1 = min t (zak l0_0 a1).f1.length := ⟨_, rfl⟩
      have hM1l : M1 ≤ (zak l0_0 a1).f1.length := by rw [hM1]; exact Nat.min_le_right _ _
      obtain ⟨A', n', c', hrun, HN, HNC, hCd⟩ := cut_any A1 c1 (zak l0_0 a1).f1 M1 hM1l hl1
      have HCD := zaa.mk hCd
      obtain ⟨M2, hM2⟩ : ∃ M2, M2 = min s n' := ⟨_, rfl⟩
      have hrun2 := cut_up A' n' c' M2 (by rw [hM2]; exact Nat.min_le_right _ _) HNC.out
      have HM2l := zaa.mk (show M2 ≤ n' by rw [hM2]; exact Nat.min_le_right _ _)
      have HRV : zaa (readL (zak l0_0 a1).f1 t s = ((zak l0_0 a1).f1.drop M1).take M2) := ⟨by unfold readL; rw [hM2, HN.out, hM1]⟩
      have HLV : zaa ((((zak l0_0 a1).f1.drop M1).take M2).length = M2) := ⟨by rw [List.length_take, List.length_drop]; have := HN.out; have := HM2l.out; omega⟩
      have HCLN : zaa (∀ W : World, Below w.heap.size w W → Calls Tryz.prog 84 #[.slice A' M2 c'] W fun e w' => ∃ v0_ : Value, e = .returned v0_ ∧ Kd.R (Kd.int .u8) 5 w' W.heap.size (fun _ => True) v0_ (((zak l0_0 a1).f1.drop M1).take M2) ∧ Below W.heap.size W w') := ⟨fun W hB => by
       have h9 := HCD.out W (Kd.C_below HI1.out hB)
       have h10 : Kd.C (Kd.int .u8) W A' ((zak l0_0 a1).f1.drop M1).length ((zak l0_0 a1).f1.drop M1) := by rw [h9.1]; exact h9
       have hT := Kd.C_take (m := M2) h10 (by rw [h9.1]; exact HM2l.out)
       have hq := zbz.calls A' c' _ (((zak l0_0 a1).f1.drop M1).take M2) W hT (by rw [HLV.out]; have := HM2l.out; have := HNC.out; omega) (by unfold zbz.f; rw [if_pos (by rw [HLV.out]; have := HM2l.out; have := HN.out; omega)])
       rw [HLV.out] at hq
       exact hq⟩
      have hs1 : ((zak l0_0 a1).f1.length < t ∧ M1 = (zak l0_0 a1).f1.length) ∨ (¬ (zak l0_0 a1).f1.length < t ∧ M1 = t) := by rw [hM1]; omega
      have hs2 : (n' < s ∧ M2 = n') ∨ (¬ n' < s ∧ M2 = s) := by rw [hM2]; omega
      have p0 := eq_true g0
      have p1 := eq_true g1
      have hmax := hi1.2.1
      have hn9 : n' ≤ 9223372036854775807 := by have := HN.out; omega
      clear h z1 z2 z3 hx0 hx1 hx2 hx3 hx4 hx5 hl1 hi1 hl2 hi2 hM1 hM2 hCd e1 g0 g1
      rcases hs1 with ⟨x1, rfl⟩ | ⟨x1, rfl⟩ <;> rcases hs2 with ⟨x2, rfl⟩ | ⟨x2, rfl⟩
      all_goals
       go_enter Tryz.func39, Tryz.ntmps39
       go_wp2_with (first | (go_at_call 66; refine (zbx.calls k _ c0_0 l0_0 (some ⟨w.heap.size + 1, 0, none⟩) 1 [a1] _ _ (Kd.C_below HR.out (by repeat (first | exact HW.out | apply zac))) HC.out HD.out (by simp) HM.out).mono ?_; rintro e' w1 ⟨rfl, hb⟩; have HB := zaa.mk (zan (zac HW.out _) hb); have hct := (zad (zam HK.out hb) 0).trans rfl; have HK1 := zaa.mk (zam HK.out hb); clear hb) | (go_at_call 83; refine (tree_file.calls _ c0_0 l0_0 a1 _ _ (Kd.C_below HR.out HB.out) HC.out HE.out).mono ?_; rintro e' w2 ⟨rfl, hb⟩; have HBn := zaa.mk (zan HB.out hb); have hct2 := (zad (zam HK1.out hb) 0).trans rfl; clear HB hb; have HB := HBn; clear HBn; (try (have hdx := (HB.out.cell (World.block_lt_of_cell? _ _ HX1.out)).trans HX1.out))) | (go_at_call 84; have HB1 := HB; refine (HCLN.out _ HB.out).mono ?_; rintro e' w3 ⟨v, rfl, hR9, hb9⟩; have hRR := zaa.mk hR9))
       go_ret2
       exact ⟨_, rfl, by rw [← HRES.out, Int.toNat_natCast, Int.toNat_natCast, HRV.out]; exact Kd.zch hRR.out HB1.out.size, zan HB1.out hb9⟩
     ·cases h
  rotate_left 2
  focus
   rw [if_neg z1] at h
   have Z1 : (e != 0) = true := by simpa using z1
   injection (Option.some.inj h) with e1 e2
   subst e1; subst e2
   clear h z1
  all_goals
   go_enter Tryz.func39, Tryz.ntmps39
   go_wp2_with (first | (go_at_call 66; refine (zbx.calls k _ c0_0 l0_0 (some ⟨w.heap.size + 1, 0, none⟩) 1 [a1] _ _ (Kd.C_below HR.out (by repeat (first | exact HW.out | apply zac))) HC.out HD.out (by simp) HM.out).mono ?_; rintro e' w1 ⟨rfl, hb⟩; have HB := zaa.mk (zan (zac HW.out _) hb); have hct := (zad (zam HK.out hb) 0).trans rfl; have HK1 := zaa.mk (zam HK.out hb); clear hb) | (go_at_call 83; refine (tree_file.calls _ c0_0 l0_0 a1 _ _ (Kd.C_below HR.out HB.out) HC.out HE.out).mono ?_; rintro e' w2 ⟨rfl, hb⟩; have HBn := zaa.mk (zan HB.out hb); have hct2 := (zad (zam HK1.out hb) 0).trans rfl; clear HB hb; have HB := HBn; clear HBn; (try (have hdx := (HB.out.cell (World.block_lt_of_cell? _ _ HX1.out)).trans HX1.out))))
   go_ret2
   exact ⟨_, rfl, Kd.R_nil _ _ _ _ _, HB.out⟩
def zaE.l0 : Nat → List Int → Int → Option (Unit)
 | 0, _, _ => none
 | k + 1, x0, x2 => if x2 < (x0.length : Int) then (if 0 ≤ x2 then (zaE.l0 k (x0.set (x2 : Int).toNat (Go.bits .xor .u8 (rd x0 x2) 85)) (wrap64 (x2 + 1))) else (none)) else (if x0.length < 140737488355328 then (some ()) else (none))
def zaE.f (k : Nat) (l0 : List Int) : Option (Unit) := zaE.l0 k l0 0
set_option maxHeartbeats 8000000 in
set_option maxRecDepth 100000 in
theorem zaE.calls (k : Nat) (P0_ : Nat → Prop) (u9000_ : Value) (l0 : List Int) (w0 w : World) (hB : Below w0.heap.size w0 w) (ho0 : Kd.R (Kd.int .u8) 5 w w0.heap.size P0_ u9000_ l0) (h : zaE.f k l0 = some ()) :
  Calls Tryz.prog 41 #[u9000_] w fun e w' => e = .returned (.tuple #[]) ∧ Below w0.heap.size w0 w' ∧ Kept w w' (fun k_ => P0_ k_) := by
 have HO0 := zaa.mk (show Kd.R (Kd.int .u8) 5 w w0.heap.size (fun k_ => (P0_ k_ ∨ w.heap.size ≤ k_)) u9000_ l0 from Kd.zbv ho0 (fun k_ hk => (.inl hk)))
 have HK := zaa.mk (Kept.refl w (fun k_ => P0_ k_))
 have HW0 := zaa.mk hB.size
 have HB := zaa.mk hB
 clear hB
 have H : (zaE.l0 k l0 0) = some () := h
 clear h
 have H' := zaa.mk H
 clear H
 go_enter Tryz.func41, Tryz.ntmps41
 go_wp2
 go_loopg [2] k (fun kq v2 w' => ∃ (x0_1 : List Int) (x2_1 : Int), v2 = .int .i64 x2_1 ∧ zaa (zaE.l0 kq x0_1 x2_1 = some ()) ∧ zaa (kq ≤ k) ∧ zaa (Kd.R (Kd.int .u8) 5 w' w0.heap.size (fun k_ => (P0_ k_ ∨ w.heap.size ≤ k_)) u9000_ x0_1) ∧ zaa (Kept w w' (fun k_ => P0_ k_)) ∧ zaa (Below w0.heap.size w0 w'))
 case atStart => exact ⟨(l0), (0), (by first | rfl | (simp; done) | (simp [*]; done)), H', ⟨Nat.le_refl _⟩, ⟨by (with_reducible repeat (first | apply Kd.zbD | apply Kd.zbH | apply Kd.zb2)); exact HO0.out⟩, ⟨by repeat (first | (with_reducible first | exact HK.out | apply Kept.alloc | apply Kept.drewN | apply Kept.drew) | exact HK.out)⟩, ⟨by repeat (first | (with_reducible first | exact HB.out | apply zac | apply zab | apply zae) | exact HB.out)⟩⟩
 case round =>
  clear H'
  obtain ⟨x0_1, x2_1, rfl, HA, HK1, HO_0, HK, HB⟩ := hrel
  cases gk with
  | zero => exact absurd HA.out (by simp [zaE.l0])
  | succ k1 =>
   have H := HA.out
   clear HA
   simp only [zaE.l0] at H
   by_cases c2 : x2_1 < (x0_1.length : Int)
   ·rw [if_pos c2] at H
    have c2b0 : decide (x2_1 < (x0_1.length : Int)) = true := decide_eq_true c2
    clear c2
    by_cases c3 : 0 ≤ x2_1
    ·rw [if_pos c3] at H
     have c3b0 : decide (0 ≤ x2_1) = true := decide_eq_true c3
     clear c3
     obtain ⟨y320, hy320⟩ : ∃ y_ : List Int, y_ = (x0_1.set (x2_1 : Int).toNat (Go.bits .xor .u8 (rd x0_1 x2_1) 85)) := ⟨_, rfl⟩
     replace H : (zaE.l0 k1 y320 (wrap64 (x2_1 + 1))) = some () := by first | (rw [hy320]; with_reducible exact H) | (have H2_ := (Option.bind_some _ _).symm.trans H; rw [hy320]; with_reducible exact H2_) | (have H2_ := (Option.bind_some _ _).symm.trans H; with_reducible exact H2_) | with_reducible exact H | (rw [hy320]; exact H) | exact H
     have Ny320 := zaa.mk hy320
     clear hy320
     have H' := zaa.mk H
     clear H
     obtain ⟨Ao5, co5, eo5⟩ := Kd.zbJ HO_0.out
     subst eo5
     have p319 : 0 ≤ (x2_1 : Int) := of_decide_eq_true (by first | (with_reducible assumption) | assumption)
     have q319 : x2_1 < (x0_1.length : Int) := of_decide_eq_true (by first | (with_reducible assumption) | assumption)
     obtain ⟨ad319, e319, hx319_0⟩ := Kd.at_int (Kd.zbO HO_0.out).2.2 x2_1 p319 q319
     cases e319
     replace p319 := eq_true p319
     replace q319 := eq_true q319
     have p4 : 0 ≤ (x2_1 : Int) := of_decide_eq_true (by first | (with_reducible assumption) | assumption)
     have q4 : (x2_1 : Int) < ((x0_1.length : Int) : Int) := of_decide_eq_true (by first | (with_reducible assumption) | assumption)
     obtain ⟨go4, co4, eo4, gb4, gl4, cl4, HG4⟩ := Kd.R_form HO_0.out (by omega)
     (first | cases eo4 | (injection eo4 with ea_ en_ ec_; (first | subst ea_ | (injection ea_ with ea_; subst ea_)); subst ec_; clear en_))
     have GB4 := zaa.mk gb4
     have GG4 := zaa.mk HG4
     clear gb4 gl4 HG4
     have HMgo4 := zaa.mk (show (P0_ go4 ∨ w.heap.size ≤ go4) from (HO_0.out.1 _ rfl))
     (first | simp only [add_plain] at hx319_0 | skip)
     obtain ⟨hx4_0, hf4_0⟩ := Kd.R_celln 0 HO_0.out (x2_1 : Int) p4 q4
     replace p4 := eq_true p4
     replace q4 := eq_true q4
     have HP6 := Kd.R_putg HO_0.out (x2_1 : Int) (Go.bits .xor .u8 (rd x0_1 x2_1) 85)
     go_wp2_with (first | ((with_reducible refine gate_store (t := 5) (p := 16) rfl ?_); refine store_event (t := 5) (p := 16) (v := ?vo_w7) (w1 := (wr.setCell ⟨go4, (x2_1 : Int).toNat, none⟩ (.int .u8 (Go.bits .xor .u8 (rd x0_1 x2_1) 85)))) ?hg ?ho ?hn ?hr ?_; (case ho => rfl); (case hg => rfl); (case hn => rfl); (case hr => first | (go_simp; done) | (go_simp; rfl)); intro w7 hw; have hg : wr.grownBy w7 (some go4) := (by rw [hw]; exact HP6.2); have hp_ : Kd.R (Kd.int .u8) 5 w7 w0.heap.size (fun k_ => (P0_ k_ ∨ w.heap.size ≤ k_)) (.slice (some ⟨go4, 0, none⟩) x0_1.length co5) y320 := (by rw [hw, Ny320.out]; exact HP6.1); clear HP6; have n0_ := zaa.mk (hp_); have n1_ := zaa.mk ((by rw [hw]; exact zal (HB.out) GB4.out : Below w0.heap.size w0 w7)); have n2_ := zaa.mk (Kept.of_grown (S := (fun k_ => P0_ k_)) hg (by repeat (first | (with_reducible first | exact HK.out | apply Kept.alloc | apply Kept.drewN | apply Kept.drew) | exact HK.out)) (fun k_ e_ => (HO_0.out.1 k_ e_))); clear HO_0; clear HB; clear HK; have HO_0 := n0_; have HB := n1_; have HK := n2_; clear n0_ n1_ n2_; clear hg hw hp_))
     go_roundg k1
     case measure => have := HK1.out; omega
     case rel => exact ⟨(y320), (wrap64 (x2_1 + 1)), (by first | rfl | (simp; done) | (simp [*]; done)), H', ⟨by have := HK1.out; omega⟩, ⟨by (with_reducible repeat (first | apply Kd.zbD | apply Kd.zbH | apply Kd.zb2)); exact HO_0.out⟩, ⟨by repeat (first | (with_reducible first | exact HK.out | apply Kept.alloc | apply Kept.drewN | apply Kept.drew) | exact HK.out)⟩, ⟨by repeat (first | (with_reducible first | exact HB.out | apply zac | apply zab | apply zae) | exact HB.out)⟩⟩
    ·rw [if_neg c3] at H
     exact absurd H (by simp)
   ·rw [if_neg c2] at H
    have c2b0 : decide (x2_1 < (x0_1.length : Int)) = false := decide_eq_false c2
    clear c2
    by_cases c8 : x0_1.length < 140737488355328
    ·rw [if_pos c8] at H
     have LMc8 := zaa.mk c8
     clear c8
     obtain ⟨y321, hy321⟩ : ∃ y_ : List Int, y_ = (x0_1 ++ [5]) := ⟨_, rfl⟩
     replace H : (some ()) = some () := by first | (rw [hy321]; with_reducible exact H) | (have H2_ := (Option.bind_some _ _).symm.trans H; rw [hy321]; with_reducible exact H2_) | (have H2_ := (Option.bind_some _ _).symm.trans H; with_reducible exact H2_) | with_reducible exact H | (rw [hy321]; exact H) | exact H
     have Ny321 := zaa.mk hy321
     clear hy321
     obtain ⟨Ao9, co9, eo9⟩ := Kd.zbJ HO_0.out
     subst eo9
     go_wp2_with (first | ((with_reducible refine zb8 (b := .append) (xs := #[.tmp 17, .tmp 18]) rfl ?_); at_builtin; refine Kd.R_append (Kd.int .u8) (w0 := w0) w0.heap.size rfl (.tmp 17) (.tmp 18) 37 5 (.int .u8 0) 1 rfl Tryz.underlying37 info5 rfl (by decide) (by omega) (.slice Ao9 x0_1.length co9) x0_1 5 [.int .u8 5] (fun k_ => (P0_ k_ ∨ w.heap.size ≤ k_)) (fun _ => False) rfl rfl ?aP (fun _ hk => hk.elim) ?aF ?aO ?aB ?aS ?aL ?_; (case aP => exact rfl); (case aB => exact (by repeat (first | (with_reducible first | exact HB.out | apply zac | apply zab | apply zae) | exact HB.out))); (case aF => exact (fun k_ hk => (.inr (Nat.le_trans (by first | exact HK.out.1 | exact (show Kept w _ (fun k_ => P0_ k_) from by repeat (first | (with_reducible first | exact HK.out | apply Kept.alloc | apply Kept.drewN | apply Kept.drew) | exact HK.out)).1) hk)))); (case aO => exact (by (with_reducible repeat (first | apply Kd.zbD | apply Kd.zbH | apply Kd.zb2)); exact HO_0.out)); (case aS => exact (zaq (by repeat (first | (with_reducible first | exact HB.out | apply zac | apply zab | apply zae) | exact HB.out)))); (case aL => have := LMc8.out; omega); intro v322 w10 ho hb hg hat; rw [← Ny321.out] at ho; have n0_ := zaa.mk (hb); have n1_ := zaa.mk (Kept.of_grown (S := (fun k_ => P0_ k_)) hg (by repeat (first | (with_reducible first | exact HK.out | apply Kept.alloc | apply Kept.drewN | apply Kept.drew) | exact HK.out)) (fun k_ e_ => (HO_0.out.1 k_ e_))); have n2_ := zaa.mk (ho); clear HB; clear HK; clear HO_0; have HB := n0_; have HK := n1_; have HO323 := n2_; clear n0_ n1_ n2_; clear ho hb hg hat))
     first | go_end0 | ((try simp only [Exit.inBlock, Exit.then]); refine bodyPost_ret (results_none rfl _ _ _) rfl ?_)
     exact ⟨by first | rfl | (simp [zav, zau] <;> rfl) | (simp [*, zav, zau] <;> rfl), by repeat (first | (with_reducible first | exact HB.out | apply zac | apply zab | apply zae) | exact HB.out), by repeat (first | (with_reducible first | exact HK.out | apply Kept.alloc | apply Kept.drewN | apply Kept.drew) | exact HK.out)⟩
    ·rw [if_neg c8] at H
     exact absurd H (by simp)
theorem mn_min {a b : Int} : mn a b = min a b := by
 unfold mn; rw [Int.min_def]
 by_cases h : b < a
 ·rw [if_pos h, if_neg (by omega)]
 ·rw [if_neg h, if_pos (by omega)]
theorem fileT_f (l : List S40) (n : Nat) (hn : n < l.length) : tree_file.f l (n : Int) = some (if (zak l (n : Int)).f0 = 2 then 31 else if (zak l (n : Int)).f0 = 3 then 28 else 0) := by
 unfold tree_file.f
 rw [if_pos (by omega), if_pos (by omega)]
 by_cases c : (zak l (n : Int)).f0 = 2
 ·rw [if_pos c, if_pos c]
 ·rw [if_neg c, if_neg c]
  by_cases c2 : (zak l (n : Int)).f0 = 3
  ·rw [if_pos c2, if_pos c2]
  ·rw [if_neg c2, if_neg c2]
theorem fileR_f (l : List S40) (n : Nat) (hn : n < l.length) : zbf.f l (n : Int) = some (if (zak l (n : Int)).f0 = 2 then 31 else if (zak l (n : Int)).f0 = 3 then 28 else 0) := by
 unfold zbf.f
 rw [if_pos (by omega), if_pos (by omega)]
 by_cases c : (zak l (n : Int)).f0 = 2
 ·rw [if_pos c, if_pos c]
 ·rw [if_neg c, if_neg c]
  by_cases c2 : (zak l (n : Int)).f0 = 3
  ·rw [if_pos c2, if_pos c2]
  ·rw [if_neg c2, if_neg c2]
theorem nodeP_data {x : S40} (h : NodeP x) : x.f1.length ≤ 16384 := by
 rcases h with h | h | h | h
 ·rw [h.2]; exact Nat.zero_le _
 ·exact h.2.2.1
 ·rw [h.2.2.2.2.1]; exact Nat.zero_le _
 ·rw [h.2.2.2.2.2.1]; exact Nat.zero_le _
def readR (l : List S40) (n : Nat) (at_ c : Int) : List Int × Int :=
 if (zak l (n : Int)).f0 = 2 then ([], 31) else if (zak l (n : Int)).f0 = 3 then ([], 28) else if at_ < 0 then ([], 28) else if c < 0 then ([], 28) else (readL (zak l (n : Int)).f1 at_.toNat c.toNat, 0)
theorem readL_len (b : List Int) (t n : Nat) : (readL b t n).length ≤ b.length := by
 unfold readL; rw [List.length_take, List.length_drop]; omega
theorem readR_len {l : List S40} (h : MayP l) {n : Nat} (hn : n < l.length) (at_ c : Int) : (readR l n at_ c).1.length ≤ 16384 := by
 have hd := nodeP_data (h.nodes n hn)
 unfold readR
 by_cases c1 : (zak l (n : Int)).f0 = 2
 ·rw [if_pos c1]; exact Nat.zero_le _
 rw [if_neg c1]
 by_cases c2 : (zak l (n : Int)).f0 = 3
 ·rw [if_pos c2]; exact Nat.zero_le _
 rw [if_neg c2]
 by_cases c3 : at_ < 0
 ·rw [if_pos c3]; exact Nat.zero_le _
 rw [if_neg c3]
 by_cases c4 : c < 0
 ·rw [if_pos c4]; exact Nat.zero_le _
 rw [if_neg c4]
 exact Nat.le_trans (readL_len _ _ _) hd
theorem treeRead_ev {l : List S40} (h : MayP l) (n : Nat) (hn : n < l.length) (hk : (zak l (n : Int)).f0 ≠ 0) (at_ c : Int) : Ev (fun k => zby.f k l (n : Int) at_ c) (readR l n at_ c) := by
 have hm := mayN_ev h.ev [(n : Int)]
 rw [show ([(n : Int)].all fun n => hasB l n) = true by simp [hasB_nd l n hn hk], Bool.and_true] at hm
 have hd := nodeP_data (h.nodes n hn)
 unfold zby.f
 refine Ev.bind hm (Ev.congr (fun _ => if_pos rfl) ?_)
 rw [fileT_f l n hn]
 unfold readR
 by_cases c1 : (zak l (n : Int)).f0 = 2
 ·rw [if_pos c1, if_pos c1]; exact Ev.congr (fun _ => by rw [Option.bind_some, if_neg (by decide)]) (Ev.now _)
 rw [if_neg c1, if_neg c1]
 by_cases c2 : (zak l (n : Int)).f0 = 3
 ·rw [if_pos c2, if_pos c2]; exact Ev.congr (fun _ => by rw [Option.bind_some, if_neg (by decide)]) (Ev.now _)
 rw [if_neg c2, if_neg c2]
 refine Ev.congr (fun _ => by rw [Option.bind_some, if_pos rfl]) ?_
 by_cases c3 : at_ < 0
 ·rw [if_pos c3, if_pos c3]; exact Ev.now _
 rw [if_neg c3, if_neg c3]
 by_cases c4 : c < 0
 ·rw [if_pos c4, if_pos c4]; exact Ev.now _
 rw [if_neg c4, if_neg c4, if_pos ⟨by omega, by omega, by omega⟩]; exact Ev.now _
theorem refRead_ev {l : List S40} (h : MayP l) (n : Nat) (hn : n < l.length) (at_ c : Int) : Ev (fun k => zbg.f k l (n : Int) at_ c) (readR l n at_ c) := by
 have hd := nodeP_data (h.nodes n hn)
 unfold zbg.f
 rw [fileR_f l n hn]
 unfold readR
 by_cases c1 : (zak l (n : Int)).f0 = 2
 ·rw [if_pos c1, if_pos c1]; exact Ev.congr (fun _ => by rw [Option.bind_some, if_neg (by decide)]) (Ev.now _)
 rw [if_neg c1, if_neg c1]
 by_cases c2 : (zak l (n : Int)).f0 = 3
 ·rw [if_pos c2, if_pos c2]; exact Ev.congr (fun _ => by rw [Option.bind_some, if_neg (by decide)]) (Ev.now _)
 rw [if_neg c2, if_neg c2]
 by_cases c3 : at_ < 0
 ·rw [if_pos c3]; exact Ev.congr (fun _ => by rw [Option.bind_some, if_pos rfl, if_pos c3]) (Ev.now _)
 rw [if_neg c3]
 by_cases c4 : c < 0
 ·rw [if_pos c4]; exact Ev.congr (fun _ => by rw [Option.bind_some, if_pos rfl, if_neg c3, if_pos c4]) (Ev.now _)
 rw [if_neg c4]
 generalize hf : (zak l (n : Int)).f1 = f at hd ⊢
 obtain ⟨t, ht⟩ : ∃ t : Nat, at_ = (t : Int) := ⟨at_.toNat, by omega⟩
 obtain ⟨q, hq⟩ : ∃ q : Nat, c = (q : Int) := ⟨c.toNat, by omega⟩
 subst ht; subst hq
 obtain ⟨A, hA⟩ : ∃ A, A = min t f.length := ⟨_, rfl⟩
 obtain ⟨B, hB⟩ : ∃ B, B = min q (f.length - A) := ⟨_, rfl⟩
 have hA1 : A ≤ f.length := by omega
 have hB1 : B ≤ f.length - A := by omega
 have e1 : mn (t : Int) (f.length : Int) = (A : Int) := by rw [mn_min, hA]; omega
 have e2 : wrap64 ((f.length : Int) - (A : Int)) = ((f.length - A : Nat) : Int) := by clear hA hB e1; unfold wrap64; omega
 have e3 : mn (q : Int) ((f.length - A : Nat) : Int) = (B : Int) := by clear e1 e2; rw [mn_min, hB]; omega
 have e4 : wrap64 ((A : Int) + (B : Int)) = ((A + B : Nat) : Int) := by clear hA hB e1 e2 e3; unfold wrap64; omega
 have e5 : (f.take (A + B)).drop A = readL f t q := by
  unfold readL
  rw [List.drop_take, ← hA, ← hB]
  congr 1
  clear hA hB e1 e2 e3 e4
  omega
 have h1 : 0 ≤ (n : Int) := Int.natCast_nonneg _
 have h2 : (n : Int) < (l.length : Int) := Int.ofNat_lt.2 hn
 have h3 : 0 ≤ (A : Int) := Int.natCast_nonneg _
 have h4 : (A : Int) ≤ ((A + B : Nat) : Int) := Int.ofNat_le.2 (Nat.le_add_right _ _)
 have h5 : ((A + B : Nat) : Int) ≤ (f.length : Int) := Int.ofNat_le.2 (by clear hA hB e1 e2 e3 e4 e5; omega)
 have hl : (readL f t q).length ≤ f.length := readL_len f t q
 rw [Int.toNat_natCast, Int.toNat_natCast]
 refine Ev.congr (f := fun k => (zaD.f k (readL f t q)).bind fun t => some (t, 0)) (fun k => ?_) ?_
 ·rw [Option.bind_some, if_pos rfl, if_neg c3, if_neg c4, e1, e2, e3, e4, if_pos h1, if_pos h2, if_pos h3, if_pos h4, if_pos h5, Int.toNat_natCast, Int.toNat_natCast, e5]
 exact Ev.bind (copyBytes (readL f t q) (Nat.lt_of_le_of_lt (Nat.le_trans hl hd) (by decide))) (Ev.now _)
theorem bytes_l0 : ∀ (d : Nat) (x : List Int) (i : Nat), i + d = x.length → x.length < 140737488355328 → Ev (fun k => zaE.l0 k x (i : Int)) ()
 | 0, x, i, h, hl => Ev.step (f := fun _ => some ()) (fun k => by
   show zaE.l0 (k + 1) x (i : Int) = _
   rw [zaE.l0, if_neg (by omega), if_pos hl]) (Ev.now ())
 | d + 1, x, i, h, hl => by
  refine Ev.step (fun k => ?_) (bytes_l0 d (x.set (i : Int).toNat (Go.bits .xor .u8 (rd x (i : Int)) 85)) (i + 1) (by rw [List.length_set]; omega) (by rw [List.length_set]; exact hl))
  show zaE.l0 (k + 1) x (i : Int) = _
  rw [zaE.l0, if_pos (by omega), if_pos (by omega), up64 (by omega)]
theorem bytes_ev (x : List Int) (h : x.length < 140737488355328) : Ev (fun k => zaE.f k x) () := bytes_l0 x.length x 0 (by omega) h
def ReadsAt (k : Nat) (l : List S40) (n1 dir at_ c : Int) (now : Int) : Prop :=
 ∃ (m tm b1 b2 : Bool) (rb : List Int) (e : Int), za2.f k l = some l ∧ zar.f k l = some m ∧ zaX.f now = some tm ∧ zaT.f l n1 = some b1 ∧ zaT.f l dir = some b2 ∧ za6.f k l l = some true ∧
  zaz.f k rb rb = some true ∧ zaE.f k rb = some () ∧ ((m && b1) = false → rb = [] ∧ e = 100) ∧ ((m && b1) = true → zbg.f k l n1 at_ c = some (rb, e)) ∧ zby.f k l n1 at_ c = some (rb, e)
theorem reads_at {l : List S40} (hl : l.length < 1599289640401) (hf : Fits l) (n1 dir at_ c now : Int) : ∃ K, ∀ k, K ≤ k → ReadsAt k l n1 dir at_ c now := by
 obtain ⟨m, hT, ⟨K1, hM⟩⟩ := may_both l hf
 obtain ⟨tm, htm, _⟩ := page_time now
 obtain ⟨K2, hC⟩ := copyTree l hl hf.n
 obtain ⟨K3, hE⟩ := (eqTree l l (by omega) hf.n).out rfl
 have hmN := mayN_ev hT [n1]
 have e1 : ([n1].all fun n => hasB l n) = hasB l n1 := by simp
 rw [e1] at hmN
 by_cases cc : (m && hasB l n1) = true
 ·rw [Bool.and_eq_true] at cc
  obtain ⟨hm, hb⟩ := cc
  rw [hm] at hT
  have hMP := of_may hf hT
  obtain ⟨n, rfl, hn, hk⟩ := hasB_of l n1 hb
  have hlen := readR_len hMP hn at_ c
  obtain ⟨K4, h4⟩ := refRead_ev hMP n hn at_ c
  obtain ⟨K5, h5⟩ := treeRead_ev hMP n hn hk at_ c
  obtain ⟨K6, h6⟩ := (eqBytes (readR l n at_ c).1 (readR l n at_ c).1 (by omega)).out rfl
  obtain ⟨K7, h7⟩ := bytes_ev (readR l n at_ c).1 (by omega)
  exact ⟨K1 + K2 + K3 + K4 + K5 + K6 + K7, fun k hk => ⟨m, tm, _, _, (readR l n at_ c).1, (readR l n at_ c).2, hC k (by omega), hM k (by omega), htm, is_f l (n : Int), is_f l dir, hE k (by omega), h6 k (by omega), h7 k (by omega), fun q => (by rw [hm, hb] at q; cases q), fun _ => h4 k (by omega), h5 k (by omega)⟩⟩
 ·rw [Bool.not_eq_true] at cc
  rw [cc] at hmN
  obtain ⟨K4, h4⟩ : Ev (fun k => zby.f k l n1 at_ c) ([], 100) := by
   unfold zby.f
   exact Ev.bind hmN (Ev.congr (fun _ => if_neg (by simp)) (Ev.now _))
  obtain ⟨K6, h6⟩ := (eqBytes [] [] (by decide)).out rfl
  obtain ⟨K7, h7⟩ := bytes_ev [] (by decide)
  exact ⟨K1 + K2 + K3 + K4 + K6 + K7, fun k hk => ⟨m, tm, _, _, [], 100, hC k (by omega), hM k (by omega), htm, is_f l n1, is_f l dir, hE k (by omega), h6 k (by omega), h7 k (by omega), fun _ => ⟨rfl, rfl⟩, fun q => (by rw [cc] at q; cases q), h4 k (by omega)⟩⟩
end Go.Proofs.YtjghephnjkffcaaGreat.PAll
