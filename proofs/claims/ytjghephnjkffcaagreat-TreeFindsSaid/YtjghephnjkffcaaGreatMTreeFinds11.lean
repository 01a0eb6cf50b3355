/- Parts of one proof, merged by a program of this repo: walks over the given program and plain facts. -/
import Derived.Test.YtjghephnjkffcaaGreatMTreeFinds4
import Derived.Test.YtjghephnjkffcaaGreatMTreeFinds5
import Derived.Test.YtjghephnjkffcaaGreatMTreeFinds10
import Derived.Test.YtjghephnjkffcaaGreatMTreeFinds8
import Derived.Test.YtjghephnjkffcaaGreatMTreeFinds7
import Derived.Test.YtjghephnjkffcaaGreatMTreeFinds9
namespace Go.Proofs.YtjghephnjkffcaaGreat.PAll
open Go.RowKit Go.Proofs.YtjghephnjkffcaaGreatW.PrintWords Go.Proofs.YtjghephnjkffcaaGreatW.PrintLast Go.Proofs.YtjghephnjkffcaaGreatW.PrintMore
attribute [local go_sem] zbP zbN zb3 zb2 zbE zbD zbO zbM
set_option linter.unusedVariables false
set_option linter.unusedSimpArgs false
def zbn.f (l0_0 : List (S40)) (a1 : Int) : Option (Bool) := if 0 ≤ a1 then (if a1 < (l0_0.length : Int) then (some (((zak l0_0 a1).f0) == 2)) else (none)) else (none)
set_option maxHeartbeats 8000000 in
set_option maxRecDepth 100000 in
theorem zbn.calls (A0_0 : Option Addr) (c0_0 : Nat) (l0_0 : List (S40)) (a1 : Int) (r : Bool) (w : World) (hr0_0 : Kd.C k40 w A0_0 l0_0.length l0_0) (hc0_0 : l0_0.length ≤ c0_0) (h : zbn.f l0_0 a1 = some r) :
  Calls Tryz.prog 63 #[.agg #[.slice A0_0 l0_0.length c0_0], .int .i64 a1] w fun e w' => e = .returned (.bool r) ∧ Below w.heap.size w w' := by
 have hu24 := Tryz.underlying24
 have HR0_0 := zaa.mk hr0_0
 have HC0_0 := zaa.mk hc0_0
 clear hr0_0 hc0_0
 have HB := zaa.mk (Below.refl w.heap.size w)
 have H : (if 0 ≤ a1 then (if a1 < (l0_0.length : Int) then (some (((zak l0_0 a1).f0) == 2)) else (none)) else (none)) = some r := h
 clear h
 by_cases c3 : 0 ≤ a1
 ·rw [if_pos c3] at H
  have c3b0 : decide (0 ≤ a1) = true := decide_eq_true c3
  clear c3
  by_cases c4 : a1 < (l0_0.length : Int)
  ·rw [if_pos c4] at H
   have c4b0 : decide (a1 < (l0_0.length : Int)) = true := decide_eq_true c4
   clear c4
   obtain rfl := Option.some.inj H
   go_enter Tryz.func63, Tryz.ntmps63
   go_wp2_with (first | ((with_reducible refine zaN (N := 2) rfl ?_); refine zaE ?hg (N := 2) ?hd (cs := #[.slice A0_0 l0_0.length c0_0]) (t := 24) ?hr ?_; (case hd => rfl); (case hg => rfl); (case hr => first | (go_simp; done) | (go_simp; rfl)); intro gb177 hg w5 hbox hb; have n0_ := zaa.mk (zan (by repeat (first | (with_reducible first | exact HB.out | apply zac | apply zab | apply zae) | exact HB.out)) hb); have n1_ := zaa.mk (hbox); have n2_ := zaa.mk ((by rw [hg]; exact (zaq (by repeat (first | (with_reducible first | exact HB.out | apply zac | apply zab | apply zae) | exact HB.out))) : w.heap.size ≤ gb177)); have n3_ := zaa.mk ((by rw [hg]; exact (zaq (by repeat (first | (with_reducible first | exact HB.out | apply zac | apply zab | apply zae) | exact HB.out))) : w.heap.size ≤ gb177)); clear HB; have HB := n0_; have BK177 := n1_; have GW177 := n2_; have GE177 := n3_; clear n0_ n1_ n2_ n3_; clear hb hbox hg; have hcz6_0 : w5.cell? ⟨gb177, 0, none⟩ = some (.slice A0_0 l0_0.length c0_0) := (zad BK177.out 0).trans rfl; have hfz6_0 := zai BK177.out 0; have p178 : 0 ≤ (a1 : Int) := of_decide_eq_true (by first | (with_reducible assumption) | assumption); have q178 : a1 < (l0_0.length : Int) := of_decide_eq_true (by first | (with_reducible assumption) | assumption); obtain ⟨ad178, A178_1, c178_1, A178_2, c178_2, e178, hx178_0, hx178_1, hx178_2, hx178_3, hx178_4, hx178_5, hl178_1, hi178_1, hl178_2, hi178_2⟩ := zbm HR0_0.out a1 p178 q178; cases e178; replace hx178_0 := (HB.out.cell (World.block_lt_of_cell? w _ hx178_0)).trans hx178_0; replace hx178_1 := (HB.out.cell (World.block_lt_of_cell? w _ hx178_1)).trans hx178_1; replace hx178_2 := (HB.out.cell (World.block_lt_of_cell? w _ hx178_2)).trans hx178_2; replace hx178_3 := (HB.out.cell (World.block_lt_of_cell? w _ hx178_3)).trans hx178_3; replace hx178_4 := (HB.out.cell (World.block_lt_of_cell? w _ hx178_4)).trans hx178_4; replace hx178_5 := (HB.out.cell (World.block_lt_of_cell? w _ hx178_5)).trans hx178_5; have HR178_1 := zaa.mk hi178_1; have HC178_1 := zaa.mk hl178_1; clear hi178_1 hl178_1; have HR178_2 := zaa.mk hi178_2; have HC178_2 := zaa.mk hl178_2; clear hi178_2 hl178_2; replace p178 := eq_true p178; replace q178 := eq_true q178))
   go_ret
   exact ⟨by first | rfl | (simp [zav, zau] <;> rfl) | (simp [*, zav, zau] <;> rfl), by repeat (first | (with_reducible first | exact HB.out | apply zac | apply zab | apply zae | refine zal ?_ GE177.out) | exact HB.out)⟩
  ·rw [if_neg c4] at H
   exact absurd H (by simp)
 ·rw [if_neg c3] at H
  exact absurd H (by simp)
def zbe.f (k : Nat) (l0_0 : List (S40)) (a1 : Int) (a2 : ByteArray) : Option (Int × Int) := (zbn.f l0_0 a1).bind fun t253 => (if t253 = true then ((zas.f k a2).bind fun t254 => (if t254 = 0 then ((zaY.f k l0_0 a1 a2).bind fun t255 => (if t255 < 0 then (some (0, 44)) else (if 0 ≤ a1 then (if a1 < (l0_0.length : Int) then (if 0 ≤ t255 then (if t255 < (((zak l0_0 a1).f2).length : Int) then (some ((zat ((zak l0_0 a1).f2) t255).f1, 0)) else (none)) else (none)) else (none)) else (none)))) else (some (0, t254)))) else (some (0, 54)))
set_option maxHeartbeats 8000000 in
set_option maxRecDepth 100000 in
theorem zbe.calls (k : Nat) (A0_0 : Option Addr) (c0_0 : Nat) (l0_0 : List (S40)) (a1 : Int) (a2 : ByteArray) (r1 : Int) (r2 : Int) (w : World) (hr0_0 : Kd.C k40 w A0_0 l0_0.length l0_0) (hc0_0 : l0_0.length ≤ c0_0) (h : zbe.f k l0_0 a1 a2 = some (r1, r2)) :
  Calls Tryz.prog 47 #[.agg #[.slice A0_0 l0_0.length c0_0], .int .i64 a1, .string a2] w fun e w' => e = .returned (.tuple #[.int .i64 r1, .int .i64 r2]) ∧ Below w.heap.size w w' := by
 have hu24 := Tryz.underlying24
 have HR0_0 := zaa.mk hr0_0
 have HC0_0 := zaa.mk hc0_0
 clear hr0_0 hc0_0
 have HB := zaa.mk (Below.refl w.heap.size w)
 have H : ((zbn.f l0_0 a1).bind fun t253 => (if t253 = true then ((zas.f k a2).bind fun t254 => (if t254 = 0 then ((zaY.f k l0_0 a1 a2).bind fun t255 => (if t255 < 0 then (some (0, 44)) else (if 0 ≤ a1 then (if a1 < (l0_0.length : Int) then (if 0 ≤ t255 then (if t255 < (((zak l0_0 a1).f2).length : Int) then (some ((zat ((zak l0_0 a1).f2) t255).f1, 0)) else (none)) else (none)) else (none)) else (none)))) else (some (0, t254)))) else (some (0, 54)))) = some (r1, r2) := h
 clear h
 replace H := Option.bind_eq_some_iff.mp H
 obtain ⟨t253, A40, H⟩ := H
 replace H : (if t253 = true then ((zas.f k a2).bind fun t254 => (if t254 = 0 then ((zaY.f k l0_0 a1 a2).bind fun t255 => (if t255 < 0 then (some (0, 44)) else (if 0 ≤ a1 then (if a1 < (l0_0.length : Int) then (if 0 ≤ t255 then (if t255 < (((zak l0_0 a1).f2).length : Int) then (some ((zat ((zak l0_0 a1).f2) t255).f1, 0)) else (none)) else (none)) else (none)) else (none)))) else (some (0, t254)))) else (some (0, 54))) = some (r1, r2) := H
 have A4 := zaa.mk A40
 clear A40
 by_cases c5 : t253 = true
 ·subst c5
  have H1 : ((zas.f k a2).bind fun t254 => (if t254 = 0 then ((zaY.f k l0_0 a1 a2).bind fun t255 => (if t255 < 0 then (some (0, 44)) else (if 0 ≤ a1 then (if a1 < (l0_0.length : Int) then (if 0 ≤ t255 then (if t255 < (((zak l0_0 a1).f2).length : Int) then (some ((zat ((zak l0_0 a1).f2) t255).f1, 0)) else (none)) else (none)) else (none)) else (none)))) else (some (0, t254)))) = some (r1, r2) := by rw [if_pos rfl] at H; exact H
  clear H
  have H := H1
  clear H1
  replace H := Option.bind_eq_some_iff.mp H
  obtain ⟨t254, A60, H⟩ := H
  replace H : (if t254 = 0 then ((zaY.f k l0_0 a1 a2).bind fun t255 => (if t255 < 0 then (some (0, 44)) else (if 0 ≤ a1 then (if a1 < (l0_0.length : Int) then (if 0 ≤ t255 then (if t255 < (((zak l0_0 a1).f2).length : Int) then (some ((zat ((zak l0_0 a1).f2) t255).f1, 0)) else (none)) else (none)) else (none)) else (none)))) else (some (0, t254))) = some (r1, r2) := H
  have A6 := zaa.mk A60
  clear A60
  by_cases c7 : t254 = 0
  ·rw [if_pos c7] at H
   have c7b0 : (t254 == 0) = true := beq_iff_eq.mpr c7
   have c7b1 : (t254 != 0) = false := bne_eq_false_iff_eq.mpr c7
   clear c7
   replace H := Option.bind_eq_some_iff.mp H
   obtain ⟨t255, A80, H⟩ := H
   replace H : (if t255 < 0 then (some (0, 44)) else (if 0 ≤ a1 then (if a1 < (l0_0.length : Int) then (if 0 ≤ t255 then (if t255 < (((zak l0_0 a1).f2).length : Int) then (some ((zat ((zak l0_0 a1).f2) t255).f1, 0)) else (none)) else (none)) else (none)) else (none))) = some (r1, r2) := H
   have A8 := zaa.mk A80
   clear A80
   by_cases c9 : t255 < 0
   ·rw [if_pos c9] at H
    have c9b0 : decide (t255 < 0) = true := decide_eq_true c9
    clear c9
    simp only [Option.some.injEq, Prod.mk.injEq] at H
    obtain ⟨rfl, rfl⟩ := H
    go_enter Tryz.func47, Tryz.ntmps47
    go_wp2_with (first | ((with_reducible refine zaN (N := 3) rfl ?_); refine zaE ?hg (N := 3) ?hd (cs := #[.slice A0_0 l0_0.length c0_0]) (t := 24) ?hr ?_; (case hd => rfl); (case hg => rfl); (case hr => first | (go_simp; done) | (go_simp; rfl)); intro gb252 hg w10 hbox hb; have n0_ := zaa.mk (zan (by repeat (first | (with_reducible first | exact HB.out | apply zac | apply zab | apply zae) | exact HB.out)) hb); have n1_ := zaa.mk (hbox); have n2_ := zaa.mk ((by rw [hg]; exact (zaq (by repeat (first | (with_reducible first | exact HB.out | apply zac | apply zab | apply zae) | exact HB.out))) : w.heap.size ≤ gb252)); have n3_ := zaa.mk ((by rw [hg]; exact (zaq (by repeat (first | (with_reducible first | exact HB.out | apply zac | apply zab | apply zae) | exact HB.out))) : w.heap.size ≤ gb252)); clear HB; have HB := n0_; have BK252 := n1_; have GW252 := n2_; have GE252 := n3_; clear n0_ n1_ n2_ n3_; clear hb hbox hg; have hcz11_0 : w10.cell? ⟨gb252, 0, none⟩ = some (.slice A0_0 l0_0.length c0_0) := (zad BK252.out 0).trans rfl; have hfz11_0 := zai BK252.out 0) | ((with_reducible refine zaM (f := 63) rfl ?_); refine zbv (some 12) rfl rfl Tryz.func63 (by kernel_rfl) rfl #[.agg #[.slice A0_0 l0_0.length c0_0], .int .i64 a1] rfl (by (try simp only [List.map_toArray, List.map_cons, List.map_nil]); first | done | rfl | (simp only [List.length_drop, List.length_take]; rfl)) ?_; (with_reducible refine (zbn.calls _ _ l0_0 a1 true _ ?side1 ?side2 A4.out).mono ?_); (case side1 => repeat (first | exact (Kd.C_below HR0_0.out HB.out) | (with_reducible refine Kd.C_alloc ?_ _) | (with_reducible refine Kd.C_drewN ?_ _) | (with_reducible refine Kd.C_drew ?_))); (case side2 => exact HC0_0.out); rintro e w12 ⟨rfl, hb⟩; refine ⟨_, rfl, ?_⟩; have n0_ := zaa.mk (zam (g := gb252) (o := .cells #[.slice A0_0 l0_0.length c0_0] 24 (0, 0)) (by (with_reducible repeat (first | refine zah ?_ _ | refine zaj ?_ | refine zaf ?_ _)); exact BK252.out) hb); have n1_ := zaa.mk (zan (by repeat (first | (with_reducible first | exact HB.out | apply zac | apply zab | apply zae | refine zal ?_ GE252.out) | exact HB.out)) hb); clear BK252; clear HB; have BK252 := n0_; have HB := n1_; clear n0_ n1_; (try clear hb); (try clear hb2); (try clear hk); (try clear hi)) | ((with_reducible refine zaM (f := 52) rfl ?_); refine zbv (some 15) rfl rfl Tryz.func52 (by kernel_rfl) rfl #[.string a2] rfl (by (try simp only [List.map_toArray, List.map_cons, List.map_nil]); first | done | rfl | (simp only [List.length_drop, List.length_take]; rfl)) ?_; (with_reducible refine (zas.calls k a2 t254 _ A6.out).mono ?_); rintro e w' ⟨rfl, ⟨nd, rfl⟩⟩; refine ⟨_, rfl, ?_⟩; have hcz13_0 : w12.cell? ⟨gb252, 0, none⟩ = some (.slice A0_0 l0_0.length c0_0) := (zad BK252.out 0).trans rfl; have hfz13_0 := zai BK252.out 0) | ((with_reducible refine zaM (f := 79) rfl ?_); refine zbv (some 22) rfl rfl Tryz.func79 (by kernel_rfl) rfl #[.agg #[.slice A0_0 l0_0.length c0_0], .int .i64 a1, .string a2] rfl (by (try simp only [List.map_toArray, List.map_cons, List.map_nil]); first | done | rfl | (simp only [List.length_drop, List.length_take]; rfl)) ?_; (with_reducible refine (zaY.calls k _ _ l0_0 a1 a2 t255 _ ?side1 ?side2 A8.out).mono ?_); (case side1 => repeat (first | exact (Kd.C_below HR0_0.out (by repeat (first | (with_reducible first | exact HB.out | apply zac | apply zab | apply zae | refine zal ?_ GE252.out) | exact HB.out))) | (with_reducible refine Kd.C_alloc ?_ _) | (with_reducible refine Kd.C_drewN ?_ _) | (with_reducible refine Kd.C_drew ?_))); (case side2 => exact HC0_0.out); rintro e w14 ⟨rfl, hb⟩; refine ⟨_, rfl, ?_⟩; have n0_ := zaa.mk (zam (g := gb252) (o := .cells #[.slice A0_0 l0_0.length c0_0] 24 (0, 0)) (by (with_reducible repeat (first | refine zah ?_ _ | refine zaj ?_ | refine zaf ?_ _)); exact BK252.out) hb); have n1_ := zaa.mk (zan (by repeat (first | (with_reducible first | exact HB.out | apply zac | apply zab | apply zae | refine zal ?_ GE252.out) | exact HB.out)) hb); clear BK252; clear HB; have BK252 := n0_; have HB := n1_; clear n0_ n1_; (try clear hb); (try clear hb2); (try clear hk); (try clear hi)))
    go_ret2
    exact ⟨by first | rfl | (simp [zav, zau] <;> rfl) | (simp [*, zav, zau] <;> rfl), by repeat (first | (with_reducible first | exact HB.out | apply zac | apply zab | apply zae | refine zal ?_ GE252.out) | exact HB.out)⟩
   ·rw [if_neg c9] at H
    have c9b0 : decide (t255 < 0) = false := decide_eq_false c9
    clear c9
    by_cases c15 : 0 ≤ a1
    ·rw [if_pos c15] at H
     have c15b0 : decide (0 ≤ a1) = true := decide_eq_true c15
     clear c15
     by_cases c16 : a1 < (l0_0.length : Int)
     ·rw [if_pos c16] at H
      have c16b0 : decide (a1 < (l0_0.length : Int)) = true := decide_eq_true c16
      clear c16
      by_cases c17 : 0 ≤ t255
      ·rw [if_pos c17] at H
       have c17b0 : decide (0 ≤ t255) = true := decide_eq_true c17
       clear c17
       by_cases c18 : t255 < (((zak l0_0 a1).f2).length : Int)
       ·rw [if_pos c18] at H
        have c18b0 : decide (t255 < (((zak l0_0 a1).f2).length : Int)) = true := decide_eq_true c18
        clear c18
        simp only [Option.some.injEq, Prod.mk.injEq] at H
        obtain ⟨rfl, rfl⟩ := H
        go_enter Tryz.func47, Tryz.ntmps47
        go_wp2_with (first | ((with_reducible refine zaN (N := 3) rfl ?_); refine zaE ?hg (N := 3) ?hd (cs := #[.slice A0_0 l0_0.length c0_0]) (t := 24) ?hr ?_; (case hd => rfl); (case hg => rfl); (case hr => first | (go_simp; done) | (go_simp; rfl)); intro gb252 hg w19 hbox hb; have n0_ := zaa.mk (zan (by repeat (first | (with_reducible first | exact HB.out | apply zac | apply zab | apply zae) | exact HB.out)) hb); have n1_ := zaa.mk (hbox); have n2_ := zaa.mk ((by rw [hg]; exact (zaq (by repeat (first | (with_reducible first | exact HB.out | apply zac | apply zab | apply zae) | exact HB.out))) : w.heap.size ≤ gb252)); have n3_ := zaa.mk ((by rw [hg]; exact (zaq (by repeat (first | (with_reducible first | exact HB.out | apply zac | apply zab | apply zae) | exact HB.out))) : w.heap.size ≤ gb252)); clear HB; have HB := n0_; have BK252 := n1_; have GW252 := n2_; have GE252 := n3_; clear n0_ n1_ n2_ n3_; clear hb hbox hg; have hcz20_0 : w19.cell? ⟨gb252, 0, none⟩ = some (.slice A0_0 l0_0.length c0_0) := (zad BK252.out 0).trans rfl; have hfz20_0 := zai BK252.out 0) | ((with_reducible refine zaM (f := 63) rfl ?_); refine zbv (some 12) rfl rfl Tryz.func63 (by kernel_rfl) rfl #[.agg #[.slice A0_0 l0_0.length c0_0], .int .i64 a1] rfl (by (try simp only [List.map_toArray, List.map_cons, List.map_nil]); first | done | rfl | (simp only [List.length_drop, List.length_take]; rfl)) ?_; (with_reducible refine (zbn.calls _ _ l0_0 a1 true _ ?side1 ?side2 A4.out).mono ?_); (case side1 => repeat (first | exact (Kd.C_below HR0_0.out HB.out) | (with_reducible refine Kd.C_alloc ?_ _) | (with_reducible refine Kd.C_drewN ?_ _) | (with_reducible refine Kd.C_drew ?_))); (case side2 => exact HC0_0.out); rintro e w21 ⟨rfl, hb⟩; refine ⟨_, rfl, ?_⟩; have n0_ := zaa.mk (zam (g := gb252) (o := .cells #[.slice A0_0 l0_0.length c0_0] 24 (0, 0)) (by (with_reducible repeat (first | refine zah ?_ _ | refine zaj ?_ | refine zaf ?_ _)); exact BK252.out) hb); have n1_ := zaa.mk (zan (by repeat (first | (with_reducible first | exact HB.out | apply zac | apply zab | apply zae | refine zal ?_ GE252.out) | exact HB.out)) hb); clear BK252; clear HB; have BK252 := n0_; have HB := n1_; clear n0_ n1_; (try clear hb); (try clear hb2); (try clear hk); (try clear hi)) | ((with_reducible refine zaM (f := 52) rfl ?_); refine zbv (some 15) rfl rfl Tryz.func52 (by kernel_rfl) rfl #[.string a2] rfl (by (try simp only [List.map_toArray, List.map_cons, List.map_nil]); first | done | rfl | (simp only [List.length_drop, List.length_take]; rfl)) ?_; (with_reducible refine (zas.calls k a2 t254 _ A6.out).mono ?_); rintro e w' ⟨rfl, ⟨nd, rfl⟩⟩; refine ⟨_, rfl, ?_⟩; have hcz22_0 : w21.cell? ⟨gb252, 0, none⟩ = some (.slice A0_0 l0_0.length c0_0) := (zad BK252.out 0).trans rfl; have hfz22_0 := zai BK252.out 0) | ((with_reducible refine zaM (f := 79) rfl ?_); refine zbv (some 22) rfl rfl Tryz.func79 (by kernel_rfl) rfl #[.agg #[.slice A0_0 l0_0.length c0_0], .int .i64 a1, .string a2] rfl (by (try simp only [List.map_toArray, List.map_cons, List.map_nil]); first | done | rfl | (simp only [List.length_drop, List.length_take]; rfl)) ?_; (with_reducible refine (zaY.calls k _ _ l0_0 a1 a2 t255 _ ?side1 ?side2 A8.out).mono ?_); (case side1 => repeat (first | exact (Kd.C_below HR0_0.out (by repeat (first | (with_reducible first | exact HB.out | apply zac | apply zab | apply zae | refine zal ?_ GE252.out) | exact HB.out))) | (with_reducible refine Kd.C_alloc ?_ _) | (with_reducible refine Kd.C_drewN ?_ _) | (with_reducible refine Kd.C_drew ?_))); (case side2 => exact HC0_0.out); rintro e w23 ⟨rfl, hb⟩; refine ⟨_, rfl, ?_⟩; have n0_ := zaa.mk (zam (g := gb252) (o := .cells #[.slice A0_0 l0_0.length c0_0] 24 (0, 0)) (by (with_reducible repeat (first | refine zah ?_ _ | refine zaj ?_ | refine zaf ?_ _)); exact BK252.out) hb); have n1_ := zaa.mk (zan (by repeat (first | (with_reducible first | exact HB.out | apply zac | apply zab | apply zae | refine zal ?_ GE252.out) | exact HB.out)) hb); clear BK252; clear HB; have BK252 := n0_; have HB := n1_; clear n0_ n1_; (try clear hb); (try clear hb2); (try clear hk); (try clear hi); have hcz24_0 : w23.cell? ⟨gb252, 0, none⟩ = some (.slice A0_0 l0_0.length c0_0) := (zad BK252.out 0).trans rfl; have hfz24_0 := zai BK252.out 0; have p256 : 0 ≤ (a1 : Int) := of_decide_eq_true (by first | (with_reducible assumption) | assumption); have q256 : a1 < (l0_0.length : Int) := of_decide_eq_true (by first | (with_reducible assumption) | assumption); obtain ⟨ad256, A256_1, c256_1, A256_2, c256_2, e256, hx256_0, hx256_1, hx256_2, hx256_3, hx256_4, hx256_5, hl256_1, hi256_1, hl256_2, hi256_2⟩ := zbm HR0_0.out a1 p256 q256; cases e256; replace hx256_0 := (HB.out.cell (World.block_lt_of_cell? w _ hx256_0)).trans hx256_0; replace hx256_1 := (HB.out.cell (World.block_lt_of_cell? w _ hx256_1)).trans hx256_1; replace hx256_2 := (HB.out.cell (World.block_lt_of_cell? w _ hx256_2)).trans hx256_2; replace hx256_3 := (HB.out.cell (World.block_lt_of_cell? w _ hx256_3)).trans hx256_3; replace hx256_4 := (HB.out.cell (World.block_lt_of_cell? w _ hx256_4)).trans hx256_4; replace hx256_5 := (HB.out.cell (World.block_lt_of_cell? w _ hx256_5)).trans hx256_5; have HR256_1 := zaa.mk hi256_1; have HC256_1 := zaa.mk hl256_1; clear hi256_1 hl256_1; have HR256_2 := zaa.mk hi256_2; have HC256_2 := zaa.mk hl256_2; clear hi256_2 hl256_2; replace p256 := eq_true p256; replace q256 := eq_true q256; have p257 : 0 ≤ (t255 : Int) := of_decide_eq_true (by first | (with_reducible assumption) | assumption); have q257 : t255 < (((zak l0_0 a1).f2).length : Int) := of_decide_eq_true (by first | (with_reducible assumption) | assumption); obtain ⟨ad257, e257, hx257_0, hx257_1⟩ := zbY HR256_2.out t255 p257 q257; cases e257; replace hx257_0 := (HB.out.cell (World.block_lt_of_cell? w _ hx257_0)).trans hx257_0; replace hx257_1 := (HB.out.cell (World.block_lt_of_cell? w _ hx257_1)).trans hx257_1; replace p257 := eq_true p257; replace q257 := eq_true q257))
        go_ret2
        exact ⟨by first | rfl | (simp [zav, zau] <;> rfl) | (simp [*, zav, zau] <;> rfl), by repeat (first | (with_reducible first | exact HB.out | apply zac | apply zab | apply zae | refine zal ?_ GE252.out) | exact HB.out)⟩
       ·rw [if_neg c18] at H
        exact absurd H (by simp)
      ·rw [if_neg c17] at H
       exact absurd H (by simp)
     ·rw [if_neg c16] at H
      exact absurd H (by simp)
    ·rw [if_neg c15] at H
     exact absurd H (by simp)
  ·rw [if_neg c7] at H
   have c7b0 : (t254 == 0) = false := beq_eq_false_iff_ne.mpr c7
   have c7b1 : (t254 != 0) = true := bne_iff_ne.mpr c7
   simp only [Option.some.injEq, Prod.mk.injEq] at H
   obtain ⟨rfl, rfl⟩ := H
   go_enter Tryz.func47, Tryz.ntmps47
   go_wp2_with (first | ((with_reducible refine zaN (N := 3) rfl ?_); refine zaE ?hg (N := 3) ?hd (cs := #[.slice A0_0 l0_0.length c0_0]) (t := 24) ?hr ?_; (case hd => rfl); (case hg => rfl); (case hr => first | (go_simp; done) | (go_simp; rfl)); intro gb252 hg w25 hbox hb; have n0_ := zaa.mk (zan (by repeat (first | (with_reducible first | exact HB.out | apply zac | apply zab | apply zae) | exact HB.out)) hb); have n1_ := zaa.mk (hbox); have n2_ := zaa.mk ((by rw [hg]; exact (zaq (by repeat (first | (with_reducible first | exact HB.out | apply zac | apply zab | apply zae) | exact HB.out))) : w.heap.size ≤ gb252)); have n3_ := zaa.mk ((by rw [hg]; exact (zaq (by repeat (first | (with_reducible first | exact HB.out | apply zac | apply zab | apply zae) | exact HB.out))) : w.heap.size ≤ gb252)); clear HB; have HB := n0_; have BK252 := n1_; have GW252 := n2_; have GE252 := n3_; clear n0_ n1_ n2_ n3_; clear hb hbox hg; have hcz26_0 : w25.cell? ⟨gb252, 0, none⟩ = some (.slice A0_0 l0_0.length c0_0) := (zad BK252.out 0).trans rfl; have hfz26_0 := zai BK252.out 0) | ((with_reducible refine zaM (f := 63) rfl ?_); refine zbv (some 12) rfl rfl Tryz.func63 (by kernel_rfl) rfl #[.agg #[.slice A0_0 l0_0.length c0_0], .int .i64 a1] rfl (by (try simp only [List.map_toArray, List.map_cons, List.map_nil]); first | done | rfl | (simp only [List.length_drop, List.length_take]; rfl)) ?_; (with_reducible refine (zbn.calls _ _ l0_0 a1 true _ ?side1 ?side2 A4.out).mono ?_); (case side1 => repeat (first | exact (Kd.C_below HR0_0.out HB.out) | (with_reducible refine Kd.C_alloc ?_ _) | (with_reducible refine Kd.C_drewN ?_ _) | (with_reducible refine Kd.C_drew ?_))); (case side2 => exact HC0_0.out); rintro e w27 ⟨rfl, hb⟩; refine ⟨_, rfl, ?_⟩; have n0_ := zaa.mk (zam (g := gb252) (o := .cells #[.slice A0_0 l0_0.length c0_0] 24 (0, 0)) (by (with_reducible repeat (first | refine zah ?_ _ | refine zaj ?_ | refine zaf ?_ _)); exact BK252.out) hb); have n1_ := zaa.mk (zan (by repeat (first | (with_reducible first | exact HB.out | apply zac | apply zab | apply zae | refine zal ?_ GE252.out) | exact HB.out)) hb); clear BK252; clear HB; have BK252 := n0_; have HB := n1_; clear n0_ n1_; (try clear hb); (try clear hb2); (try clear hk); (try clear hi)) | ((with_reducible refine zaM (f := 52) rfl ?_); refine zbv (some 15) rfl rfl Tryz.func52 (by kernel_rfl) rfl #[.string a2] rfl (by (try simp only [List.map_toArray, List.map_cons, List.map_nil]); first | done | rfl | (simp only [List.length_drop, List.length_take]; rfl)) ?_; (with_reducible refine (zas.calls k a2 t254 _ A6.out).mono ?_); rintro e w' ⟨rfl, ⟨nd, rfl⟩⟩; refine ⟨_, rfl, ?_⟩))
   go_ret2
   exact ⟨by first | rfl | (simp [zav, zau] <;> rfl) | (simp [*, zav, zau] <;> rfl), by repeat (first | (with_reducible first | exact HB.out | apply zac | apply zab | apply zae | refine zal ?_ GE252.out) | exact HB.out)⟩
 ·replace c5 := Bool.eq_false_iff.mpr c5
  subst c5
  have H1 : (some (0, 54)) = some (r1, r2) := by rw [if_neg (show ¬ (false = true) by decide)] at H; exact H
  clear H
  have H := H1
  clear H1
  simp only [Option.some.injEq, Prod.mk.injEq] at H
  obtain ⟨rfl, rfl⟩ := H
  go_enter Tryz.func47, Tryz.ntmps47
  go_wp2_with (first | ((with_reducible refine zaN (N := 3) rfl ?_); refine zaE ?hg (N := 3) ?hd (cs := #[.slice A0_0 l0_0.length c0_0]) (t := 24) ?hr ?_; (case hd => rfl); (case hg => rfl); (case hr => first | (go_simp; done) | (go_simp; rfl)); intro gb252 hg w28 hbox hb; have n0_ := zaa.mk (zan (by repeat (first | (with_reducible first | exact HB.out | apply zac | apply zab | apply zae) | exact HB.out)) hb); have n1_ := zaa.mk (hbox); have n2_ := zaa.mk ((by rw [hg]; exact (zaq (by repeat (first | (with_reducible first | exact HB.out | apply zac | apply zab | apply zae) | exact HB.out))) : w.heap.size ≤ gb252)); have n3_ := zaa.mk ((by rw [hg]; exact (zaq (by repeat (first | (with_reducible first | exact HB.out | apply zac | apply zab | apply zae) | exact HB.out))) : w.heap.size ≤ gb252)); clear HB; have HB := n0_; have BK252 := n1_; have GW252 := n2_; have GE252 := n3_; clear n0_ n1_ n2_ n3_; clear hb hbox hg; have hcz29_0 : w28.cell? ⟨gb252, 0, none⟩ = some (.slice A0_0 l0_0.length c0_0) := (zad BK252.out 0).trans rfl; have hfz29_0 := zai BK252.out 0) | ((with_reducible refine zaM (f := 63) rfl ?_); refine zbv (some 12) rfl rfl Tryz.func63 (by kernel_rfl) rfl #[.agg #[.slice A0_0 l0_0.length c0_0], .int .i64 a1] rfl (by (try simp only [List.map_toArray, List.map_cons, List.map_nil]); first | done | rfl | (simp only [List.length_drop, List.length_take]; rfl)) ?_; (with_reducible refine (zbn.calls _ _ l0_0 a1 false _ ?side1 ?side2 A4.out).mono ?_); (case side1 => repeat (first | exact (Kd.C_below HR0_0.out HB.out) | (with_reducible refine Kd.C_alloc ?_ _) | (with_reducible refine Kd.C_drewN ?_ _) | (with_reducible refine Kd.C_drew ?_))); (case side2 => exact HC0_0.out); rintro e w30 ⟨rfl, hb⟩; refine ⟨_, rfl, ?_⟩; have n0_ := zaa.mk (zam (g := gb252) (o := .cells #[.slice A0_0 l0_0.length c0_0] 24 (0, 0)) (by (with_reducible repeat (first | refine zah ?_ _ | refine zaj ?_ | refine zaf ?_ _)); exact BK252.out) hb); have n1_ := zaa.mk (zan (by repeat (first | (with_reducible first | exact HB.out | apply zac | apply zab | apply zae | refine zal ?_ GE252.out) | exact HB.out)) hb); clear BK252; clear HB; have BK252 := n0_; have HB := n1_; clear n0_ n1_; (try clear hb); (try clear hb2); (try clear hk); (try clear hi)))
  go_ret2
  exact ⟨by first | rfl | (simp [zav, zau] <;> rfl) | (simp [*, zav, zau] <;> rfl), by repeat (first | (with_reducible first | exact HB.out | apply zac | apply zab | apply zae | refine zal ?_ GE252.out) | exact HB.out)⟩
theorem sorted_at {ns : List S50} (hs : Sorted ns) {s : ByteArray} {i : Nat} (hi : i < ns.length) (he : ns[i].f0 = s) : bsAt ns s = true ∧ bs ns s = i := by
 have hm : (⟨s, ns[i].f1⟩ : S50) ∈ ns := by rw [← he]; exact List.getElem_mem hi
 refine ⟨(bsAt_mem hs s).2 ⟨_, hm⟩, ?_⟩
 obtain ⟨h1, h2⟩ := bs_mem hs hm
 rw [zbK ns _ h1] at h2
 have hp := List.pairwise_iff_getElem.1 hs
 have hbs : (ns[bs ns s]'h1).f0 = s := by rw [h2]
 rcases Nat.lt_trichotomy (bs ns s) i with q | q | q
 ·have := hp _ _ h1 hi q
  rw [he] at this
  exact absurd (show ltN (ns[bs ns s]'h1) (ns[bs ns s]'h1).f0 by rw [hbs]; exact this) (ltN_irr _)
 ·exact q
 ·have := hp _ _ hi h1 q
  rw [hbs] at this
  exact absurd (show ltN ns[i] ns[i].f0 by rw [he]; exact this) (ltN_irr _)
theorem at_l0 {l : List S40} (d : Nat) (hd : d < l.length) (hs : Sorted (zak l (d : Int)).f2) (hl : (zak l (d : Int)).f2.length ≤ 64) (s : ByteArray) : ∀ (q i : Nat), i + q = (zak l (d : Int)).f2.length → (∀ j (h : j < (zak l (d : Int)).f2.length), j < i → (zak l (d : Int)).f2[j].f0 ≠ s) → Ev (fun k => zaY.l0 k (d : Int) s (i : Int) l) (if bsAt (zak l (d : Int)).f2 s = true then (bs (zak l (d : Int)).f2 s : Int) else -1)
 | 0, i, h, hno => by
  have hb : bsAt (zak l (d : Int)).f2 s ≠ true := fun q => by
   obtain ⟨n, hm⟩ := (bsAt_mem hs s).1 q
   obtain ⟨j, hj, e⟩ := List.getElem_of_mem hm
   exact hno j hj (by omega) (by rw [e])
  rw [if_neg hb]
  exact Ev.step (f := fun _ => some (-1)) (fun k => by
   show zaY.l0 (k + 1) (d : Int) s (i : Int) l = _
   rw [zaY.l0, if_pos (by omega), if_pos (by omega), if_neg (by omega)]) (Ev.now _)
 | q + 1, i, h, hno => by
  have hi : i < (zak l (d : Int)).f2.length := by omega
  by_cases e : (zak l (d : Int)).f2[i].f0 = s
  ·obtain ⟨h1, h2⟩ := sorted_at hs hi e
   rw [if_pos h1, h2]
   exact Ev.step (f := fun _ => some (i : Int)) (fun k => by
    show zaY.l0 (k + 1) (d : Int) s (i : Int) l = _
    rw [zaY.l0, if_pos (by omega), if_pos (by omega), if_pos (by omega), if_pos (by omega), zbK _ i hi, if_pos (by rw [e])]) (Ev.now _)
  ·refine Ev.step (fun k => ?_) (at_l0 d hd hs hl s q (i + 1) (by omega) (fun j hj hji => by
    by_cases e2 : j = i
    ·subst e2; exact e
    ·exact hno j hj (by omega)))
   show zaY.l0 (k + 1) (d : Int) s (i : Int) l = _
   rw [zaY.l0, if_pos (by omega), if_pos (by omega), if_pos (by omega), if_pos (by omega), zbK _ i hi, if_neg (fun q => e (bytes_eq.1 q)), up64 (by omega)]
theorem refFind_ev {l : List S40} (h : MayP l) (d : Nat) (hd : d < l.length) (s : ByteArray) (hss : s.size < 9223372036854775807) : Ev (fun k => zbe.f k l (d : Int) s) (findR l d s) := by
 have hdf : zbn.f l (d : Int) = some ((zak l (d : Int)).f0 == 2) := by
  unfold zbn.f; rw [if_pos (by omega), if_pos (by omega)]
 unfold findR
 by_cases hk : (zak l (d : Int)).f0 = 2
 ·rw [if_pos hk]
  have hk' : ((zak l (d : Int)).f0 == 2) = true := by simpa using hk
  have hdp := (h.nodes d hd).dir hk
  refine Ev.congr (fun k => by unfold zbe.f; rw [hdf, hk', Option.bind_some, if_pos rfl]) (Ev.bind (page_name s hss) ?_)
  by_cases hs : nameP s = 0
  ·rw [if_pos hs]
   have hat := at_l0 d hd hdp.sorted hdp.len s (zak l (d : Int)).f2.length 0 (by omega) (fun j _ h => by omega)
   refine Ev.congr (fun k => if_pos hs) (Ev.bind (show Ev (fun k => zaY.f k l (d : Int) s) _ from hat) ?_)
   by_cases hb : bsAt (zak l (d : Int)).f2 s = true
   ·rw [if_pos hb, if_pos hb]
    have hlt : bs (zak l (d : Int)).f2 s < (zak l (d : Int)).f2.length := by
     unfold bsAt at hb; rw [Bool.and_eq_true, decide_eq_true_eq] at hb; exact hb.1
    refine Ev.congr (fun k => ?_) (Ev.now _)
    rw [if_neg (by omega), if_pos (by omega), if_pos (by omega), if_pos (by omega), if_pos (by omega)]
   ·rw [if_neg hb, if_neg hb]
    exact Ev.congr (fun k => if_pos (by decide)) (Ev.now _)
  ·rw [if_neg hs]
   exact Ev.congr (fun k => if_neg hs) (Ev.now _)
 ·rw [if_neg hk]
  have hk' : ((zak l (d : Int)).f0 == 2) = false := by simpa using hk
  exact Ev.congr (fun k => by unfold zbe.f; rw [hdf, hk', Option.bind_some, if_neg (by simp)]) (Ev.now _)
theorem is_f (l : List S40) (n : Int) : zaO.f l n = some (hasB l n) := by
 unfold zaO.f hasB
 by_cases h1 : n ≥ 0
 ·rw [if_pos h1, decide_eq_true (show 0 ≤ n from h1)]
  by_cases h2 : n < (l.length : Int)
  ·rw [if_pos h2, if_pos h1, decide_eq_true h2]; simp
  ·rw [if_neg h2, decide_eq_false h2]; simp
 ·rw [if_neg h1, decide_eq_false (show ¬ 0 ≤ n from h1)]; simp
def FindsAt (k : Nat) (l : List S40) (n1 dir : Int) (s : ByteArray) (now : Int) : Prop :=
 ∃ (m tm b1 b2 : Bool) (n e : Int), za4.f k l = some l ∧ zar.f k l = some m ∧ zaT.f now = some tm ∧ zaO.f l n1 = some b1 ∧ zaO.f l dir = some b2 ∧ za7.f k l l = some true ∧
  ((m && b2) = false → n = 0 ∧ e = 100) ∧ ((m && b2) = true → zbe.f k l dir s = some (n, e)) ∧ zbC.f k l dir s = some (n, e)
theorem finds_at {l : List S40} (hl : l.length < 1599289640401) (hf : Fits l) (n1 dir : Int) (s : ByteArray) (hss : s.size < 9223372036854775807) (now : Int) : ∃ K, ∀ k, K ≤ k → FindsAt k l n1 dir s now := by
 obtain ⟨m, hT, ⟨K1, hM⟩⟩ := may_both l hf
 obtain ⟨tm, htm, _⟩ := page_time now
 obtain ⟨K2, hC⟩ := copyTree l hl hf.n
 obtain ⟨K3, hE⟩ := (eqTree l l (by omega) hf.n).out rfl
 have hmN := mayN_ev hT [dir]
 have e1 : ([dir].all fun n => hasB l n) = hasB l dir := by simp
 rw [e1] at hmN
 by_cases c : (m && hasB l dir) = true
 ·rw [Bool.and_eq_true] at c
  obtain ⟨hm, hb⟩ := c
  rw [hm] at hT
  have hMP := of_may hf hT
  obtain ⟨d, rfl, hd, hk⟩ := hasB_of l dir hb
  obtain ⟨K4, h4⟩ := refFind_ev hMP d hd s hss
  obtain ⟨K5, h5⟩ := Find_ev hMP d hd hk s
  exact ⟨K1 + K2 + K3 + K4 + K5, fun k hk => ⟨m, tm, _, _, (findR l d s).1, (findR l d s).2, hC k (by omega), hM k (by omega), htm, is_f l n1, is_f l (d : Int), hE k (by omega), fun q => (by rw [hm, hb] at q; cases q), fun _ => h4 k (by omega), h5 k (by omega)⟩⟩
 ·rw [Bool.not_eq_true] at c
  rw [c] at hmN
  obtain ⟨K4, h4⟩ : Ev (fun k => zbC.f k l dir s) (0, 100) := by
   unfold zbC.f
   exact Ev.bind hmN (Ev.congr (fun _ => if_neg (by simp)) (Ev.now _))
  exact ⟨K1 + K2 + K3 + K4, fun k hk => ⟨m, tm, _, _, 0, 100, hC k (by omega), hM k (by omega), htm, is_f l n1, is_f l dir, hE k (by omega), fun _ => ⟨rfl, rfl⟩, fun q => (by rw [c] at q; cases q), h4 k (by omega)⟩⟩
end Go.Proofs.YtjghephnjkffcaaGreat.PAll
