/- Parts of one proof, merged by a program of this repo: walks over the given program and plain facts. -/
import Derived.Test.YtjghephnjkffcaaGreatMTreeLinks4
import Derived.Test.YtjghephnjkffcaaGreatMTreeLinks5
import Derived.Test.YtjghephnjkffcaaGreatMTreeLinks6
import Derived.Test.YtjghephnjkffcaaGreatMTreeLinks2
import Derived.Deep.DrawnRows
import Derived.Deep.RegionHeld3
namespace Go.Proofs.YtjghephnjkffcaaGreat.PAll
open Go.RowKit Go.Proofs.YtjghephnjkffcaaGreatW.PrintWords Go.Proofs.YtjghephnjkffcaaGreatW.PrintLast Go.Proofs.YtjghephnjkffcaaGreatW.PrintMore
attribute [local go_sem] zbQ zbO zb6 zb5 zbD zbC zbP zbN
set_option linter.unusedVariables false
set_option linter.unusedSimpArgs false
def tree_node.f (l0_0 : List (S40)) (a1_0 : Int) (l1_1 : List Int) (l1_2 : List (S50)) (a1_3 : ByteArray) (a1_4 : Int) (a1_5 : Int) : Option (Bool) := if a1_0 = 0 then (if (wrap64 ((l1_1.length : Int) + (l1_2.length : Int))) = 0 then (if a1_3.toList = ([] : List UInt8) then (if a1_4 = 0 then (some (a1_5 == 0)) else (some false)) else (some false)) else (some false)) else (if a1_0 = 1 then (if (l1_1.length : Int) ≤ 16384 then (if (l1_2.length : Int) = 0 then (if a1_3.toList = ([] : List UInt8) then ((zbp.f a1_5).bind fun t194 => (some t194)) else (some false)) else (some false)) else (some false)) else (if a1_0 = 2 then (if (l1_1.length : Int) = 0 then (if a1_3.toList = ([] : List UInt8) then ((zbp.f a1_5).bind fun t195 => (if t195 = true then ((zcv.f l0_0 l1_2).bind fun t196 => (some t196)) else (some false))) else (some false)) else (some false)) else (if a1_0 = 3 then (if (wrap64 ((l1_1.length : Int) + (l1_2.length : Int))) = 0 then ((zcm.f a1_3).bind fun t197 => (if t197 = true then ((zbp.f a1_5).bind fun t198 => (some t198)) else (some false))) else (some false)) else (some false))))
set_option maxHeartbeats 8000000 in
set_option maxRecDepth 100000 in
theorem tree_node.calls (A0_0 : Option Addr) (c0_0 : Nat) (l0_0 : List (S40)) (a1_0 : Int) (A1_1 : Option Addr) (c1_1 : Nat) (l1_1 : List Int) (A1_2 : Option Addr) (c1_2 : Nat) (l1_2 : List (S50)) (a1_3 : ByteArray) (a1_4 : Int) (a1_5 : Int) (r : Bool) (w : World) (hr0_0 : Kd.C k40 w A0_0 l0_0.length l0_0) (hc0_0 : l0_0.length ≤ c0_0) (hr1_1 : Kd.C (Kd.int .u8) w A1_1 l1_1.length l1_1) (hc1_1 : l1_1.length ≤ c1_1) (hr1_2 : Kd.C k50 w A1_2 l1_2.length l1_2) (hc1_2 : l1_2.length ≤ c1_2) (h : tree_node.f l0_0 a1_0 l1_1 l1_2 a1_3 a1_4 a1_5 = some r) :
  Calls Tryz.prog 60 #[.agg #[.slice A0_0 l0_0.length c0_0], .agg #[.int .i64 a1_0, .slice A1_1 l1_1.length c1_1, .slice A1_2 l1_2.length c1_2, .string a1_3, .int .i64 a1_4, .int .i64 a1_5]] w fun e w' => e = .returned (.bool r) ∧ Below w.heap.size w w' := by
 have hu24 := Tryz.underlying24
 have hu40 := Tryz.underlying40
 have HR0_0 := zab.mk hr0_0
 have HC0_0 := zab.mk hc0_0
 clear hr0_0 hc0_0
 have HR1_1 := zab.mk hr1_1
 have HC1_1 := zab.mk hc1_1
 clear hr1_1 hc1_1
 have HR1_2 := zab.mk hr1_2
 have HC1_2 := zab.mk hc1_2
 clear hr1_2 hc1_2
 have HB := zab.mk (Below.refl w.heap.size w)
 have H : (if a1_0 = 0 then (if (wrap64 ((l1_1.length : Int) + (l1_2.length : Int))) = 0 then (if a1_3.toList = ([] : List UInt8) then (if a1_4 = 0 then (some (a1_5 == 0)) else (some false)) else (some false)) else (some false)) else (if a1_0 = 1 then (if (l1_1.length : Int) ≤ 16384 then (if (l1_2.length : Int) = 0 then (if a1_3.toList = ([] : List UInt8) then ((zbp.f a1_5).bind fun t194 => (some t194)) else (some false)) else (some false)) else (some false)) else (if a1_0 = 2 then (if (l1_1.length : Int) = 0 then (if a1_3.toList = ([] : List UInt8) then ((zbp.f a1_5).bind fun t195 => (if t195 = true then ((zcv.f l0_0 l1_2).bind fun t196 => (some t196)) else (some false))) else (some false)) else (some false)) else (if a1_0 = 3 then (if (wrap64 ((l1_1.length : Int) + (l1_2.length : Int))) = 0 then ((zcm.f a1_3).bind fun t197 => (if t197 = true then ((zbp.f a1_5).bind fun t198 => (some t198)) else (some false))) else (some false)) else (some false))))) = some r := h
 clear h
 by_cases c3 : a1_0 = 0
 focus
  rw [if_pos c3] at H
  have c3b0 : (a1_0 == 0) = true := beq_iff_eq.mpr c3
  have c3b1 : (a1_0 != 0) = false := bne_eq_false_iff_eq.mpr c3
  clear c3
  by_cases c4 : (wrap64 ((l1_1.length : Int) + (l1_2.length : Int))) = 0
  focus
   rw [if_pos c4] at H
   have c4b0 : ((wrap64 ((l1_1.length : Int) + (l1_2.length : Int))) == 0) = true := beq_iff_eq.mpr c4
   have c4b1 : ((wrap64 ((l1_1.length : Int) + (l1_2.length : Int))) != 0) = false := bne_eq_false_iff_eq.mpr c4
   clear c4
   by_cases c5 : a1_3.toList = ([] : List UInt8)
   focus
    rw [if_pos c5] at H
    have c5b0 : (a1_3.toList == ([] : List UInt8)) = true := beq_iff_eq.mpr c5
    have c5b1 : (a1_3.toList != ([] : List UInt8)) = false := bne_eq_false_iff_eq.mpr c5
    clear c5
    by_cases c6 : a1_4 = 0
    focus
     rw [if_pos c6] at H
     have c6b0 : (a1_4 == 0) = true := beq_iff_eq.mpr c6
     have c6b1 : (a1_4 != 0) = false := bne_eq_false_iff_eq.mpr c6
     clear c6
     obtain rfl := Option.some.inj H
    rotate_left 1
    focus
     rw [if_neg c6] at H
     have c6b0 : (a1_4 == 0) = false := beq_eq_false_iff_ne.mpr c6
     have c6b1 : (a1_4 != 0) = true := bne_iff_ne.mpr c6
     obtain rfl := Option.some.inj H
   rotate_left 2
   focus
    rw [if_neg c5] at H
    have c5b0 : (a1_3.toList == ([] : List UInt8)) = false := beq_eq_false_iff_ne.mpr c5
    have c5b1 : (a1_3.toList != ([] : List UInt8)) = true := bne_iff_ne.mpr c5
    obtain rfl := Option.some.inj H
  rotate_left 3
  focus
   rw [if_neg c4] at H
   have c4b0 : ((wrap64 ((l1_1.length : Int) + (l1_2.length : Int))) == 0) = false := beq_eq_false_iff_ne.mpr c4
   have c4b1 : ((wrap64 ((l1_1.length : Int) + (l1_2.length : Int))) != 0) = true := bne_iff_ne.mpr c4
   obtain rfl := Option.some.inj H
 rotate_left 4
 focus
  rw [if_neg c3] at H
  have c3b0 : (a1_0 == 0) = false := beq_eq_false_iff_ne.mpr c3
  have c3b1 : (a1_0 != 0) = true := bne_iff_ne.mpr c3
  by_cases c23 : a1_0 = 1
  focus
   rw [if_pos c23] at H
   have c23b0 : (a1_0 == 1) = true := beq_iff_eq.mpr c23
   have c23b1 : (a1_0 != 1) = false := bne_eq_false_iff_eq.mpr c23
   clear c23
   by_cases c24 : (l1_1.length : Int) ≤ 16384
   focus
    rw [if_pos c24] at H
    have c24b0 : decide ((l1_1.length : Int) ≤ 16384) = true := decide_eq_true c24
    have c24b1 : decide (l1_1.length ≤ 16384) = true := decide_eq_true (by omega)
    clear c24
    by_cases c25 : (l1_2.length : Int) = 0
    focus
     rw [if_pos c25] at H
     have c25b0 : ((l1_2.length : Int) == 0) = true := beq_iff_eq.mpr c25
     have c25b1 : ((l1_2.length : Int) != 0) = false := bne_eq_false_iff_eq.mpr c25
     clear c25
     by_cases c26 : a1_3.toList = ([] : List UInt8)
     focus
      rw [if_pos c26] at H
      have c26b0 : (a1_3.toList == ([] : List UInt8)) = true := beq_iff_eq.mpr c26
      have c26b1 : (a1_3.toList != ([] : List UInt8)) = false := bne_eq_false_iff_eq.mpr c26
      clear c26
      replace H := Option.bind_eq_some_iff.mp H
      obtain ⟨t194, A270, H⟩ := H
      replace H : (some t194) = some r := H
      have A27 := zab.mk A270
      clear A270
      obtain rfl := Option.some.inj H
     rotate_left 1
     focus
      rw [if_neg c26] at H
      have c26b0 : (a1_3.toList == ([] : List UInt8)) = false := beq_eq_false_iff_ne.mpr c26
      have c26b1 : (a1_3.toList != ([] : List UInt8)) = true := bne_iff_ne.mpr c26
      obtain rfl := Option.some.inj H
    rotate_left 2
    focus
     rw [if_neg c25] at H
     have c25b0 : ((l1_2.length : Int) == 0) = false := beq_eq_false_iff_ne.mpr c25
     have c25b1 : ((l1_2.length : Int) != 0) = true := bne_iff_ne.mpr c25
     have c25b2 : ¬ (l1_2 = []) := fun h_ => c25 (by rw [h_]; rfl)
     obtain rfl := Option.some.inj H
   rotate_left 3
   focus
    rw [if_neg c24] at H
    have c24b0 : decide ((l1_1.length : Int) ≤ 16384) = false := decide_eq_false c24
    have c24b1 : decide (l1_1.length ≤ 16384) = false := decide_eq_false (by omega)
    clear c24
    obtain rfl := Option.some.inj H
  rotate_left 4
  focus
   rw [if_neg c23] at H
   have c23b0 : (a1_0 == 1) = false := beq_eq_false_iff_ne.mpr c23
   have c23b1 : (a1_0 != 1) = true := bne_iff_ne.mpr c23
   by_cases c44 : a1_0 = 2
   focus
    rw [if_pos c44] at H
    have c44b0 : (a1_0 == 2) = true := beq_iff_eq.mpr c44
    have c44b1 : (a1_0 != 2) = false := bne_eq_false_iff_eq.mpr c44
    clear c44
    by_cases c45 : (l1_1.length : Int) = 0
    focus
     rw [if_pos c45] at H
     have c45b0 : ((l1_1.length : Int) == 0) = true := beq_iff_eq.mpr c45
     have c45b1 : ((l1_1.length : Int) != 0) = false := bne_eq_false_iff_eq.mpr c45
     clear c45
     by_cases c46 : a1_3.toList = ([] : List UInt8)
     focus
      rw [if_pos c46] at H
      have c46b0 : (a1_3.toList == ([] : List UInt8)) = true := beq_iff_eq.mpr c46
      have c46b1 : (a1_3.toList != ([] : List UInt8)) = false := bne_eq_false_iff_eq.mpr c46
      clear c46
      replace H := Option.bind_eq_some_iff.mp H
      obtain ⟨t195, A470, H⟩ := H
      replace H : (if t195 = true then ((zcv.f l0_0 l1_2).bind fun t196 => (some t196)) else (some false)) = some r := H
      have A47 := zab.mk A470
      clear A470
      by_cases c48 : t195 = true
      focus
       subst c48
       have H1 : ((zcv.f l0_0 l1_2).bind fun t196 => (some t196)) = some r := by rw [if_pos rfl] at H; exact H
       clear H
       have H := H1
       clear H1
       replace H := Option.bind_eq_some_iff.mp H
       obtain ⟨t196, A490, H⟩ := H
       replace H : (some t196) = some r := H
       have A49 := zab.mk A490
       clear A490
       obtain rfl := Option.some.inj H
      rotate_left 1
      focus
       replace c48 := Bool.eq_false_iff.mpr c48
       subst c48
       have H1 : (some false) = some r := by rw [if_neg (show ¬ (false = true) by decide)] at H; exact H
       clear H
       have H := H1
       clear H1
       obtain rfl := Option.some.inj H
     rotate_left 2
     focus
      rw [if_neg c46] at H
      have c46b0 : (a1_3.toList == ([] : List UInt8)) = false := beq_eq_false_iff_ne.mpr c46
      have c46b1 : (a1_3.toList != ([] : List UInt8)) = true := bne_iff_ne.mpr c46
      obtain rfl := Option.some.inj H
    rotate_left 3
    focus
     rw [if_neg c45] at H
     have c45b0 : ((l1_1.length : Int) == 0) = false := beq_eq_false_iff_ne.mpr c45
     have c45b1 : ((l1_1.length : Int) != 0) = true := bne_iff_ne.mpr c45
     have c45b2 : ¬ (l1_1 = []) := fun h_ => c45 (by rw [h_]; rfl)
     obtain rfl := Option.some.inj H
   rotate_left 4
   focus
    rw [if_neg c44] at H
    have c44b0 : (a1_0 == 2) = false := beq_eq_false_iff_ne.mpr c44
    have c44b1 : (a1_0 != 2) = true := bne_iff_ne.mpr c44
    by_cases c68 : a1_0 = 3
    focus
     rw [if_pos c68] at H
     have c68b0 : (a1_0 == 3) = true := beq_iff_eq.mpr c68
     have c68b1 : (a1_0 != 3) = false := bne_eq_false_iff_eq.mpr c68
     clear c68
     by_cases c69 : (wrap64 ((l1_1.length : Int) + (l1_2.length : Int))) = 0
     focus
      rw [if_pos c69] at H
      have c69b0 : ((wrap64 ((l1_1.length : Int) + (l1_2.length : Int))) == 0) = true := beq_iff_eq.mpr c69
      have c69b1 : ((wrap64 ((l1_1.length : Int) + (l1_2.length : Int))) != 0) = false := bne_eq_false_iff_eq.mpr c69
      clear c69
      replace H := Option.bind_eq_some_iff.mp H
      obtain ⟨t197, A700, H⟩ := H
      replace H : (if t197 = true then ((zbp.f a1_5).bind fun t198 => (some t198)) else (some false)) = some r := H
      have A70 := zab.mk A700
      clear A700
      by_cases c71 : t197 = true
      focus
       subst c71
       have H1 : ((zbp.f a1_5).bind fun t198 => (some t198)) = some r := by rw [if_pos rfl] at H; exact H
       clear H
       have H := H1
       clear H1
       replace H := Option.bind_eq_some_iff.mp H
       obtain ⟨t198, A720, H⟩ := H
       replace H : (some t198) = some r := H
       have A72 := zab.mk A720
       clear A720
       obtain rfl := Option.some.inj H
      rotate_left 1
      focus
       replace c71 := Bool.eq_false_iff.mpr c71
       subst c71
       have H1 : (some false) = some r := by rw [if_neg (show ¬ (false = true) by decide)] at H; exact H
       clear H
       have H := H1
       clear H1
       obtain rfl := Option.some.inj H
     rotate_left 2
     focus
      rw [if_neg c69] at H
      have c69b0 : ((wrap64 ((l1_1.length : Int) + (l1_2.length : Int))) == 0) = false := beq_eq_false_iff_ne.mpr c69
      have c69b1 : ((wrap64 ((l1_1.length : Int) + (l1_2.length : Int))) != 0) = true := bne_iff_ne.mpr c69
      obtain rfl := Option.some.inj H
    rotate_left 3
    focus
     rw [if_neg c68] at H
     have c68b0 : (a1_0 == 3) = false := beq_eq_false_iff_ne.mpr c68
     have c68b1 : (a1_0 != 3) = true := bne_iff_ne.mpr c68
     obtain rfl := Option.some.inj H
 all_goals
  go_enter Tryz.func60, Tryz.ntmps60
  go_wp2_with (first | ((with_reducible refine zaY (N := 2) rfl ?_); (try (refine zbx (by rfl) ?_; dsimp only)); refine zaN ?hg (N := 2) ?hd (cs := #[.slice A0_0 l0_0.length c0_0]) (t := 24) ?hr ?_; (case hd => rfl); (case hg => rfl); (case hr => first | (go_simp; done) | (go_simp; rfl)); intro gb192 hg wq1 hbox hb; have n0_ := zab.mk (zan (by repeat (first | (with_reducible first | exact HB.out | apply zad | apply zac | apply zaf) | exact HB.out)) hb); have n1_ := zab.mk (hbox); have n2_ := zab.mk ((by rw [hg]; exact (zaq (by repeat (first | (with_reducible first | exact HB.out | apply zad | apply zac | apply zaf) | exact HB.out))) : w.heap.size ≤ gb192)); have n3_ := zab.mk ((by rw [hg]; exact (zaq (by repeat (first | (with_reducible first | exact HB.out | apply zad | apply zac | apply zaf) | exact HB.out))) : w.heap.size ≤ gb192)); clear HB; have HB := n0_; have BK192 := n1_; have GW192 := n2_; have GE192 := n3_; clear n0_ n1_ n2_ n3_; clear hb hbox hg) | ((with_reducible refine zaY (N := 3) rfl ?_); (try (refine zbx (by rfl) ?_; dsimp only)); refine zaN ?hg (N := 3) ?hd (cs := #[.int .i64 a1_0, .slice A1_1 l1_1.length c1_1, .slice A1_2 l1_2.length c1_2, .string a1_3, .int .i64 a1_4, .int .i64 a1_5]) (t := 40) ?hr ?_; (case hd => rfl); (case hg => rfl); (case hr => first | (go_simp; done) | (go_simp; rfl)); intro gb193 hg wq2 hbox hb; have n0_ := zab.mk (zal (g := gb192) (o := .cells #[.slice A0_0 l0_0.length c0_0] 24 (0, 0)) (by (with_reducible repeat (first | refine zah ?_ _ | refine zaj ?_ | refine zae ?_ _)); exact BK192.out) hb); have n1_ := zab.mk (zan (by repeat (first | (with_reducible first | exact HB.out | apply zad | apply zac | apply zaf | refine zam ?_ GE192.out) | exact HB.out)) hb); have n2_ := zab.mk (hbox); have n3_ := zab.mk ((by rw [hg]; exact (zaq (by repeat (first | (with_reducible first | exact HB.out | apply zad | apply zac | apply zaf | refine zam ?_ GE192.out) | exact HB.out))) : w.heap.size ≤ gb193)); have n4_ := zab.mk ((by rw [hg]; exact (zaq (by repeat (first | (with_reducible first | exact HB.out | apply zad | apply zac | apply zaf | refine zam ?_ GE192.out) | exact HB.out))) : w.heap.size ≤ gb193)); have n5_ := zab.mk ((by rw [hg]; exact Nat.ne_of_lt (zaZ (g := gb192) (o := .cells #[.slice A0_0 l0_0.length c0_0] 24 (0, 0)) (by (with_reducible repeat (first | refine zah ?_ _ | refine zaj ?_ | refine zae ?_ _)); exact BK192.out)) : gb192 ≠ gb193)); have n6_ := zab.mk ((by rw [hg]; exact Nat.ne_of_gt (zaZ (g := gb192) (o := .cells #[.slice A0_0 l0_0.length c0_0] 24 (0, 0)) (by (with_reducible repeat (first | refine zah ?_ _ | refine zaj ?_ | refine zae ?_ _)); exact BK192.out)) : gb193 ≠ gb192)); clear BK192; clear HB; have BK192 := n0_; have HB := n1_; have BK193 := n2_; have GW193 := n3_; have GE193 := n4_; have NB192_193 := n5_; have NB193_192 := n6_; clear n0_ n1_ n2_ n3_ n4_ n5_ n6_; clear hb hbox hg; have hnbq3 := NB193_192.out; have hncq3 := NB192_193.out; have hczq4_0 : wq2.cell? ⟨gb193, 0, none⟩ = some (.int .i64 a1_0) := (zaa BK193.out 0).trans rfl; have hczq4_1 : wq2.cell? ⟨gb193, 1, none⟩ = some (.slice A1_1 l1_1.length c1_1) := (zaa BK193.out 1).trans rfl; have hczq4_2 : wq2.cell? ⟨gb193, 2, none⟩ = some (.slice A1_2 l1_2.length c1_2) := (zaa BK193.out 2).trans rfl; have hczq4_3 : wq2.cell? ⟨gb193, 3, none⟩ = some (.string a1_3) := (zaa BK193.out 3).trans rfl; have hczq4_4 : wq2.cell? ⟨gb193, 4, none⟩ = some (.int .i64 a1_4) := (zaa BK193.out 4).trans rfl; have hczq4_5 : wq2.cell? ⟨gb193, 5, none⟩ = some (.int .i64 a1_5) := (zaa BK193.out 5).trans rfl; have hfzq4_0 := zai BK193.out 0; have hfzq4_1 := zai BK193.out 1; have hfzq4_2 := zai BK193.out 2; have hfzq4_3 := zai BK193.out 3; have hfzq4_4 := zai BK193.out 4; have hfzq4_5 := zai BK193.out 5) | (go_at_call 67; (with_reducible refine (zbp.calls a1_5 _ _ A27.out).mono ?_); rintro e w' ⟨rfl, ⟨nd, rfl⟩⟩) | (go_at_call 67; (with_reducible refine (zbp.calls a1_5 _ _ A47.out).mono ?_); rintro e w' ⟨rfl, ⟨nd, rfl⟩⟩; have hczq5_0 : wq2.cell? ⟨gb192, 0, none⟩ = some (.slice A0_0 l0_0.length c0_0) := (zaa BK192.out 0).trans rfl; have hfzq5_0 := zai BK192.out 0) | (go_at_call 92; (with_reducible refine (zcv.calls _ _ l0_0 _ _ l1_2 _ _ ?side1 ?side2 ?side3 ?side4 A49.out).mono ?_); (case side1 => repeat (first | exact (Kd.C_below HR0_0.out (by repeat (first | (with_reducible first | exact HB.out | apply zad | apply zac | apply zaf | refine zam ?_ GE192.out | refine zam ?_ GE193.out) | exact HB.out))) | (with_reducible refine Kd.C_alloc ?_ _) | (with_reducible refine Kd.C_drewN ?_ _) | (with_reducible refine Kd.C_drew ?_))); (case side2 => exact HC0_0.out); (case side3 => repeat (first | exact (Kd.C_below HR1_2.out (by repeat (first | (with_reducible first | exact HB.out | apply zad | apply zac | apply zaf | refine zam ?_ GE192.out | refine zam ?_ GE193.out) | exact HB.out))) | (with_reducible refine Kd.C_alloc ?_ _) | (with_reducible refine Kd.C_drewN ?_ _) | (with_reducible refine Kd.C_drew ?_))); (case side4 => exact HC1_2.out); rintro e wq6 ⟨rfl, hb⟩; have n0_ := zab.mk (zal (g := gb192) (o := .cells #[.slice A0_0 l0_0.length c0_0] 24 (0, 0)) (by (with_reducible repeat (first | refine zah ?_ _ | refine zaj ?_ | refine zae ?_ _)); exact BK192.out) hb); have n1_ := zab.mk (zal (g := gb193) (o := .cells #[.int .i64 a1_0, .slice A1_1 l1_1.length c1_1, .slice A1_2 l1_2.length c1_2, .string a1_3, .int .i64 a1_4, .int .i64 a1_5] 40 (0, 0)) (by (with_reducible repeat (first | refine zah ?_ _ | refine zaj ?_ | refine zae ?_ _)); exact BK193.out) hb); have n2_ := zab.mk (zan (by repeat (first | (with_reducible first | exact HB.out | apply zad | apply zac | apply zaf | refine zam ?_ GE192.out | refine zam ?_ GE193.out) | exact HB.out)) hb); clear BK192; clear BK193; clear HB; have BK192 := n0_; have BK193 := n1_; have HB := n2_; clear n0_ n1_ n2_; (try clear hb); (try clear hb2); (try clear hk); (try clear hi)) | (go_at_call 67; (with_reducible refine (zbp.calls a1_5 _ _ A47.out).mono ?_); rintro e w' ⟨rfl, ⟨nd, rfl⟩⟩) | (go_at_call 93; (with_reducible refine (zcm.calls a1_3 _ _ A70.out).mono ?_); rintro e w' ⟨rfl, ⟨nd, rfl⟩⟩) | (go_at_call 67; (with_reducible refine (zbp.calls a1_5 _ _ A72.out).mono ?_); rintro e w' ⟨rfl, ⟨nd, rfl⟩⟩))
  go_ret
  exact ⟨by first | rfl | (simp [zaw, zav] <;> rfl) | (simp [*, zaw, zav] <;> rfl), by repeat (first | (with_reducible first | exact HB.out | apply zad | apply zac | apply zaf | refine zam ?_ GE192.out | refine zam ?_ GE193.out) | exact HB.out)⟩
mutual
def za1.l0 : Nat → List Int → List (S40) → Int → Int → Option (List Int)
 | 0, _, _, _, _ => none
 | k + 1, x3, x13, x14, x15 => if x15 < x14 then (if 0 ≤ x15 then (if x15 < (x13.length : Int) then (za1.l1 k x3 x13 x14 x15 ((zak x13 x15).f2) (((zak x13 x15).f2).length : Int) 0) else (none)) else (none)) else (some x3)
def za1.l1 : Nat → List Int → List (S40) → Int → Int → List (S50) → Int → Int → Option (List Int)
 | 0, _, _, _, _, _, _, _ => none
 | k + 1, x3, x13, x14, x15, x20, x21, x22 => if x22 < x21 then (if 0 ≤ x22 then (if x22 < (x20.length : Int) then (if 0 ≤ ((zau x20 x22).f1) then (if ((zau x20 x22).f1) < (x3.length : Int) then (za1.l1 k (x3.set (((zau x20 x22).f1) : Int).toNat (wrap64 ((rd x3 ((zau x20 x22).f1)) + 1))) x13 x14 x15 x20 x21 (wrap64 (x22 + 1))) else (none)) else (none)) else (none)) else (none)) else (za1.l0 k x3 x13 x14 (wrap64 (x15 + 1)))
end
def za1.f (k : Nat) (l0_0 : List (S40)) : Option (List Int) := if 0 ≤ (l0_0.length : Int) then (if ((l0_0.length : Int) : Int).toNat ≤ 35184372088832 then (za1.l0 k (List.replicate ((l0_0.length : Int) : Int).toNat 0) l0_0 (l0_0.length : Int) 0) else (none)) else (none)
theorem za1.mono_l : ∀ k, (∀ y0 y1 y2 y3, LeO (za1.l0 k y0 y1 y2 y3) (za1.l0 (k + 1) y0 y1 y2 y3)) ∧ (∀ y0 y1 y2 y3 y4 y5 y6, LeO (za1.l1 k y0 y1 y2 y3 y4 y5 y6) (za1.l1 (k + 1) y0 y1 y2 y3 y4 y5 y6))
 | 0 => ⟨fun _ _ _ _ r h => by simp [za1.l0] at h, fun _ _ _ _ _ _ _ r h => by simp [za1.l1] at h⟩
 | k + 1 => by
  obtain ⟨ih0, ih1⟩ := za1.mono_l k
  refine ⟨?_, ?_⟩
  ·intro y0 y1 y2 y3
   unfold za1.l0
   repeat' first
   | (with_reducible exact ih0 _ _ _ _)
   | (with_reducible exact ih1 _ _ _ _ _ _ _)
   | (with_reducible exact LeO.refl _)
   | (with_reducible exact LeO.none _)
   | (with_reducible refine LeO.ite ?_ ?_)
   | (with_reducible refine LeO.bind ?_ (fun _ => ?_))
   | exact ih0 _ _ _ _
   | exact ih1 _ _ _ _ _ _ _
   | exact LeO.none _
   | refine LeO.ite ?_ ?_
   | refine LeO.bind ?_ (fun _ => ?_)
  ·intro y0 y1 y2 y3 y4 y5 y6
   unfold za1.l1
   repeat' first
   | (with_reducible exact ih0 _ _ _ _)
   | (with_reducible exact ih1 _ _ _ _ _ _ _)
   | (with_reducible exact LeO.refl _)
   | (with_reducible exact LeO.none _)
   | (with_reducible refine LeO.ite ?_ ?_)
   | (with_reducible refine LeO.bind ?_ (fun _ => ?_))
   | exact ih0 _ _ _ _
   | exact ih1 _ _ _ _ _ _ _
   | exact LeO.none _
   | refine LeO.ite ?_ ?_
   | refine LeO.bind ?_ (fun _ => ?_)
theorem za1.mono : ∀ a0 k, LeO (za1.f k a0) (za1.f (k + 1) a0) := by
 intro a0 k
 obtain ⟨ih0, ih1⟩ := za1.mono_l k
 unfold za1.f
 repeat' first
   | (with_reducible exact ih0 _ _ _ _)
   | (with_reducible exact ih1 _ _ _ _ _ _ _)
   | (with_reducible exact LeO.refl _)
   | (with_reducible exact LeO.none _)
   | (with_reducible refine LeO.ite ?_ ?_)
   | (with_reducible refine LeO.bind ?_ (fun _ => ?_))
   | exact ih0 _ _ _ _
   | exact ih1 _ _ _ _ _ _ _
   | exact LeO.none _
   | refine LeO.ite ?_ ?_
   | refine LeO.bind ?_ (fun _ => ?_)
set_option maxHeartbeats 8000000 in
set_option maxRecDepth 100000 in
theorem za1.calls (k : Nat) (A0_0 : Option Addr) (c0_0 : Nat) (l0_0 : List (S40)) (r : List Int) (w : World) (hr0_0 : Kd.C k40 w A0_0 l0_0.length l0_0) (hc0_0 : l0_0.length ≤ c0_0) (h : za1.f k l0_0 = some r) :
  Calls Tryz.prog 61 #[.agg #[.slice A0_0 l0_0.length c0_0]] w fun e w' => ∃ v0_ : Value, e = .returned (v0_) ∧ Kd.R (Kd.int .i64) 3 w' w.heap.size (fun _ => True) v0_ r ∧ Below w.heap.size w w' := by
 have hu24 := Tryz.underlying24
 have hu40 := Tryz.underlying40
 have hu50 := Tryz.underlying50
 have HR0_0 := zab.mk hr0_0
 have HC0_0 := zab.mk hc0_0
 clear hr0_0 hc0_0
 have HB := zab.mk (Below.refl w.heap.size w)
 have H : (if 0 ≤ (l0_0.length : Int) then (if ((l0_0.length : Int) : Int).toNat ≤ 35184372088832 then (za1.l0 k (List.replicate ((l0_0.length : Int) : Int).toNat 0) l0_0 (l0_0.length : Int) 0) else (none)) else (none)) = some r := h
 clear h
 by_cases c2 : 0 ≤ (l0_0.length : Int)
 ·rw [if_pos c2] at H
  have c2b0 := eq_true c2
  have c2b1 : decide (0 ≤ (l0_0.length : Int)) = true := decide_eq_true c2
  clear c2
  by_cases c3 : ((l0_0.length : Int) : Int).toNat ≤ 35184372088832
  ·rw [if_pos c3] at H
   have c3b0 := eq_true c3
   have c3b1 : decide (((l0_0.length : Int) : Int).toNat ≤ 35184372088832) = true := decide_eq_true c3
   clear c3
   obtain ⟨y200, hy200⟩ : ∃ y_ : List Int, y_ = (List.replicate ((l0_0.length : Int) : Int).toNat 0) := ⟨_, rfl⟩
   replace H : (za1.l0 k y200 l0_0 (l0_0.length : Int) 0) = some r := by first | (rw [hy200]; with_reducible exact H) | (have H2_ := (Option.bind_some _ _).symm.trans H; rw [hy200]; with_reducible exact H2_) | (have H2_ := (Option.bind_some _ _).symm.trans H; with_reducible exact H2_) | with_reducible exact H | (rw [hy200]; exact H) | exact H
   have Ny200 := zab.mk hy200
   clear hy200
   have H' := zab.mk H
   clear H
   go_enter Tryz.func61, Tryz.ntmps61
   go_wp2_with (first | ((with_reducible refine zaY (N := 1) rfl ?_); refine zaN ?hg (N := 1) ?hd (cs := #[.slice A0_0 l0_0.length c0_0]) (t := 24) ?hr ?_; (case hd => rfl); (case hg => rfl); (case hr => first | (go_simp; done) | (go_simp; rfl)); intro gb199 hg w4 hbox hb; have n0_ := zab.mk (zan (by repeat (first | (with_reducible first | exact HB.out | apply zad | apply zac | apply zaf) | exact HB.out)) hb); have n1_ := zab.mk (hbox); have n2_ := zab.mk ((by rw [hg]; exact (zaq (by repeat (first | (with_reducible first | exact HB.out | apply zad | apply zac | apply zaf) | exact HB.out))) : w.heap.size ≤ gb199)); have n3_ := zab.mk ((by rw [hg]; exact (zaq (by repeat (first | (with_reducible first | exact HB.out | apply zad | apply zac | apply zaf) | exact HB.out))) : w.heap.size ≤ gb199)); clear HB; have HB := n0_; have BK199 := n1_; have GW199 := n2_; have GE199 := n3_; clear n0_ n1_ n2_ n3_; clear hb hbox hg; have hcz5_0 : w4.cell? ⟨gb199, 0, none⟩ = some (.slice A0_0 l0_0.length c0_0) := (zaa BK199.out 0).trans rfl; have hfz5_0 := zai BK199.out 0) | ((with_reducible refine zaY (N := 11) rfl ?_); refine Kd.R_make (Kd.int .i64) _ 3 rfl (N := 11) rfl 95 _ _ rfl (l0_0.length : Int) rfl rfl Tryz.underlying95 (.int .i64 0) 8 info3 rfl (by decide) (by omega) 0 (ok := fun _ => True) (okp := fun _ => True) rfl (fun _ hk => hk) trivial (of_decide_eq_true (by first | (with_reducible assumption) | assumption)) (Nat.le_trans (Nat.mul_le_mul_right _ (of_decide_eq_true (by first | (with_reducible assumption) | assumption) : (l0_0.length : Int).toNat ≤ 35184372088832)) (by omega)) (Below.refl _ _) (Nat.le_refl _) ?_; intro v201 w6 ho7 hb hg_ hnew_; clear hg_ hnew_; (first | rw [← Ny200.out] at ho7 | (simp only [Int.reduceToNat] at ho7; rw [← Ny200.out] at ho7)); have n0_ := zab.mk (Kd.R_lower ho7 (zaq (by repeat (first | (with_reducible first | exact HB.out | apply zad | apply zac | apply zaf | refine zam ?_ GE199.out) | exact HB.out)))); have n1_ := zab.mk (zal (g := gb199) (o := .cells #[.slice A0_0 l0_0.length c0_0] 24 (0, 0)) (by (with_reducible repeat (first | refine zah ?_ _ | refine zaj ?_ | refine zae ?_ _)); exact BK199.out) hb); have n2_ := zab.mk (zan (by repeat (first | (with_reducible first | exact HB.out | apply zad | apply zac | apply zaf | refine zam ?_ GE199.out) | exact HB.out)) hb); clear BK199; clear HB; have HO202 := n0_; have BK199 := n1_; have HB := n2_; clear n0_ n1_ n2_; clear hb ho7; have hcz8_0 : w6.cell? ⟨gb199, 0, none⟩ = some (.slice A0_0 l0_0.length c0_0) := (zaa BK199.out 0).trans rfl; have hfz8_0 := zai BK199.out 0))
   go_loopg [15] k (fun kq v15 w' => ∃ (x3_1 : List Int) (x15_1 : Int), v15 = .int .i64 x15_1 ∧ zab (za1.l0 kq x3_1 l0_0 (l0_0.length : Int) x15_1 = some r) ∧ zab (kq ≤ k) ∧ zab (Kd.R (Kd.int .i64) 3 w' w.heap.size (fun _ => True) v201 x3_1) ∧ zab (w'.heap[gb199]? = some (.cells #[(.slice A0_0 l0_0.length c0_0)] 24 (0, 0))) ∧ zab (Below w.heap.size w w'))
   case atStart => exact ⟨(y200), (0), (by first | rfl | (simp; done) | (simp [*]; done)), H', ⟨Nat.le_refl _⟩, ⟨by (with_reducible repeat (first | apply Kd.zbK | apply Kd.zbT | apply Kd.zcf)); exact HO202.out⟩, ⟨by (with_reducible repeat (first | refine zah ?_ _ | refine zaj ?_ | refine zae ?_ _)); exact BK199.out⟩, ⟨by repeat (first | (with_reducible first | exact HB.out | apply zad | apply zac | apply zaf | refine zam ?_ GE199.out) | exact HB.out)⟩⟩
   case round =>
    clear H'
    try clear c2
    try clear c2b0
    try clear c2b1
    try clear p2
    try clear c3
    try clear c3b0
    try clear c3b1
    try clear c6
    try clear hcz5_0
    try clear hcz8_0
    try clear hfz5_0
    try clear hfz8_0
    obtain ⟨x3_1, x15_1, rfl, HA, HK1, HO_3, BK199, HB⟩ := hrel
    cases gk with
    | zero => exact absurd HA.out (by simp [za1.l0])
    | succ k1 =>
     have H := HA.out
     clear HA
     simp only [za1.l0] at H
     by_cases c9 : x15_1 < (l0_0.length : Int)
     ·rw [if_pos c9] at H
      have c9b0 : decide (x15_1 < (l0_0.length : Int)) = true := decide_eq_true c9
      clear c9
      by_cases c10 : 0 ≤ x15_1
      ·rw [if_pos c10] at H
       have c10b0 : decide (0 ≤ x15_1) = true := decide_eq_true c10
       clear c10
       by_cases c11 : x15_1 < (l0_0.length : Int)
       ·rw [if_pos c11] at H
        have c11b0 : decide (x15_1 < (l0_0.length : Int)) = true := decide_eq_true c11
        clear c11
        have H' := zab.mk H
        clear H
        have p203 : 0 ≤ (x15_1 : Int) := of_decide_eq_true (by first | (with_reducible assumption) | assumption)
        have q203 : x15_1 < (l0_0.length : Int) := of_decide_eq_true (by first | (with_reducible assumption) | assumption)
        obtain ⟨ad203, A203_1, c203_1, A203_2, c203_2, e203, hx203_0, hx203_1, hx203_2, hx203_3, hx203_4, hx203_5, hl203_1, hi203_1, hl203_2, hi203_2⟩ := zbl HR0_0.out x15_1 p203 q203
        cases e203
        replace hx203_0 := (HB.out.cell (World.block_lt_of_cell? w _ hx203_0)).trans hx203_0
        replace hx203_1 := (HB.out.cell (World.block_lt_of_cell? w _ hx203_1)).trans hx203_1
        replace hx203_2 := (HB.out.cell (World.block_lt_of_cell? w _ hx203_2)).trans hx203_2
        replace hx203_3 := (HB.out.cell (World.block_lt_of_cell? w _ hx203_3)).trans hx203_3
        replace hx203_4 := (HB.out.cell (World.block_lt_of_cell? w _ hx203_4)).trans hx203_4
        replace hx203_5 := (HB.out.cell (World.block_lt_of_cell? w _ hx203_5)).trans hx203_5
        have HR203_1 := zab.mk hi203_1
        have HC203_1 := zab.mk hl203_1
        clear hi203_1 hl203_1
        have HR203_2 := zab.mk hi203_2
        have HC203_2 := zab.mk hl203_2
        clear hi203_2 hl203_2
        replace p203 := eq_true p203
        replace q203 := eq_true q203
        go_wp2_with (first | ((with_reducible refine zaY (N := 5) rfl ?_); refine zaN ?hg (N := 5) ?hd (cs := #[.int .i64 0, .slice none 0 0, .slice none 0 0, .string (⟨#[]⟩ : ByteArray), .int .i64 0, .int .i64 0]) (t := 40) ?hr ?_; (case hd => rfl); (case hg => rfl); (case hr => first | (go_simp; done) | (go_simp; rfl)); intro gb204 hg w12 hbox hb; have n0_ := zab.mk (Kd.R_below (by (with_reducible repeat (first | apply Kd.zbK | apply Kd.zbT | apply Kd.zcf)); exact HO_3.out) hb); have n1_ := zab.mk (zal (g := gb199) (o := .cells #[.slice (some ad203) l0_0.length c0_0] 24 (0, 0)) (by (with_reducible repeat (first | refine zah ?_ _ | refine zaj ?_ | refine zae ?_ _)); exact BK199.out) hb); have n2_ := zab.mk (zan (by repeat (first | (with_reducible first | exact HB.out | apply zad | apply zac | apply zaf | refine zam ?_ GE199.out) | exact HB.out)) hb); have n3_ := zab.mk (hbox); have n4_ := zab.mk ((by rw [hg]; exact (zaq (by repeat (first | (with_reducible first | exact HB.out | apply zad | apply zac | apply zaf | refine zam ?_ GE199.out) | exact HB.out))) : w.heap.size ≤ gb204)); have n5_ := zab.mk ((by rw [hg]; exact (zaq (by repeat (first | (with_reducible first | exact HB.out | apply zad | apply zac | apply zaf | refine zam ?_ GE199.out) | exact HB.out))) : w.heap.size ≤ gb204)); have n6_ := zab.mk ((by rw [hg]; exact Nat.ne_of_lt (zaZ (g := gb199) (o := .cells #[.slice (some ad203) l0_0.length c0_0] 24 (0, 0)) (by (with_reducible repeat (first | refine zah ?_ _ | refine zaj ?_ | refine zae ?_ _)); exact BK199.out)) : gb199 ≠ gb204)); have n7_ := zab.mk ((by rw [hg]; exact Nat.ne_of_gt (zaZ (g := gb199) (o := .cells #[.slice (some ad203) l0_0.length c0_0] 24 (0, 0)) (by (with_reducible repeat (first | refine zah ?_ _ | refine zaj ?_ | refine zae ?_ _)); exact BK199.out)) : gb204 ≠ gb199)); clear HO_3; clear BK199; clear HB; have HO_3 := n0_; have BK199 := n1_; have HB := n2_; have BK204 := n3_; have GW204 := n4_; have GE204 := n5_; have NB199_204 := n6_; have NB204_199 := n7_; clear n0_ n1_ n2_ n3_ n4_ n5_ n6_ n7_; clear hb hbox hg; have hnb13 := NB204_199.out; have hnc13 := NB199_204.out; have hcz14_0 : w12.cell? ⟨gb204, 0, none⟩ = some (.int .i64 0) := (zaa BK204.out 0).trans rfl; have hcz14_1 : w12.cell? ⟨gb204, 1, none⟩ = some (.slice none 0 0) := (zaa BK204.out 1).trans rfl; have hcz14_2 : w12.cell? ⟨gb204, 2, none⟩ = some (.slice none 0 0) := (zaa BK204.out 2).trans rfl; have hcz14_3 : w12.cell? ⟨gb204, 3, none⟩ = some (.string (⟨#[]⟩ : ByteArray)) := (zaa BK204.out 3).trans rfl; have hcz14_4 : w12.cell? ⟨gb204, 4, none⟩ = some (.int .i64 0) := (zaa BK204.out 4).trans rfl; have hcz14_5 : w12.cell? ⟨gb204, 5, none⟩ = some (.int .i64 0) := (zaa BK204.out 5).trans rfl; have hfz14_0 := zai BK204.out 0; have hfz14_1 := zai BK204.out 1; have hfz14_2 := zai BK204.out 2; have hfz14_3 := zai BK204.out 3; have hfz14_4 := zai BK204.out 4; have hfz14_5 := zai BK204.out 5))
        go_loopg [22] k1 (fun kq v22 w' => ∃ (x3_2 : List Int) (x22_2 : Int), v22 = .int .i64 x22_2 ∧ zab (za1.l1 kq x3_2 l0_0 (l0_0.length : Int) x15_1 ((zak l0_0 x15_1).f2) (((zak l0_0 x15_1).f2).length : Int) x22_2 = some r) ∧ zab (kq ≤ k1) ∧ zab (Kd.R (Kd.int .i64) 3 w' w.heap.size (fun _ => True) v201 x3_2) ∧ zab (w'.heap[gb199]? = some (.cells #[(.slice (some ad203) l0_0.length c0_0)] 24 (0, 0))) ∧ zab (w'.heap[gb204]? = some (.cells #[.int .i64 ((zak l0_0 x15_1).f0), (.slice A203_1 ((zak l0_0 x15_1).f1).length c203_1), (.slice A203_2 ((zak l0_0 x15_1).f2).length c203_2), .string ((zak l0_0 x15_1).f3), .int .i64 ((zak l0_0 x15_1).f4), .int .i64 ((zak l0_0 x15_1).f5)] 40 (0, 0))) ∧ zab (Below w.heap.size w w'))
        case atStart => exact ⟨(x3_1), (0), (by first | rfl | (simp; done) | (simp [*]; done)), H', ⟨Nat.le_refl _⟩, ⟨by (with_reducible repeat (first | apply Kd.zbK | apply Kd.zbT | apply Kd.zcf)); exact Kd.zbG (Kd.R_far (p := ⟨gb204, 5, none⟩) (Kd.R_far (p := ⟨gb204, 4, none⟩) (Kd.R_far (p := ⟨gb204, 3, none⟩) (Kd.R_far (p := ⟨gb204, 2, none⟩) (Kd.R_far (p := ⟨gb204, 1, none⟩) (Kd.R_far (p := ⟨gb204, 0, none⟩) (Kd.zcs HO_3.out BK204.out (by decide)) (fun _ hk => hk.2) (.int .i64 ((zak l0_0 x15_1).f0))) (fun _ hk => hk.2) (.slice A203_1 ((zak l0_0 x15_1).f1).length c203_1)) (fun _ hk => hk.2) (.slice A203_2 ((zak l0_0 x15_1).f2).length c203_2)) (fun _ hk => hk.2) (.string ((zak l0_0 x15_1).f3))) (fun _ hk => hk.2) (.int .i64 ((zak l0_0 x15_1).f4))) (fun _ hk => hk.2) (.int .i64 ((zak l0_0 x15_1).f5))) (fun _ hk => trivial)⟩, ⟨by (with_reducible repeat (first | refine zah ?_ _ | refine zaj ?_ | refine zae ?_ _)); refine zaH ?_ NB199_204.out _; (with_reducible repeat (first | refine zah ?_ _ | refine zaj ?_ | refine zae ?_ _)); refine zaH ?_ NB199_204.out _; (with_reducible repeat (first | refine zah ?_ _ | refine zaj ?_ | refine zae ?_ _)); refine zaH ?_ NB199_204.out _; (with_reducible repeat (first | refine zah ?_ _ | refine zaj ?_ | refine zae ?_ _)); refine zaH ?_ NB199_204.out _; (with_reducible repeat (first | refine zah ?_ _ | refine zaj ?_ | refine zae ?_ _)); refine zaH ?_ NB199_204.out _; (with_reducible repeat (first | refine zah ?_ _ | refine zaj ?_ | refine zae ?_ _)); refine zaH ?_ NB199_204.out _; (with_reducible repeat (first | refine zah ?_ _ | refine zaj ?_ | refine zae ?_ _)); exact BK199.out⟩, ⟨by (with_reducible repeat (first | refine zah ?_ _ | refine zaj ?_ | refine zae ?_ _)); refine zaQ (cs := #[.int .i64 ((zak l0_0 x15_1).f0), .slice A203_1 ((zak l0_0 x15_1).f1).length c203_1, .slice A203_2 ((zak l0_0 x15_1).f2).length c203_2, .string ((zak l0_0 x15_1).f3), .int .i64 ((zak l0_0 x15_1).f4), .int .i64 0]) ?_ 5 _ rfl; (with_reducible repeat (first | refine zah ?_ _ | refine zaj ?_ | refine zae ?_ _)); refine zaQ (cs := #[.int .i64 ((zak l0_0 x15_1).f0), .slice A203_1 ((zak l0_0 x15_1).f1).length c203_1, .slice A203_2 ((zak l0_0 x15_1).f2).length c203_2, .string ((zak l0_0 x15_1).f3), .int .i64 0, .int .i64 0]) ?_ 4 _ rfl; (with_reducible repeat (first | refine zah ?_ _ | refine zaj ?_ | refine zae ?_ _)); refine zaQ (cs := #[.int .i64 ((zak l0_0 x15_1).f0), .slice A203_1 ((zak l0_0 x15_1).f1).length c203_1, .slice A203_2 ((zak l0_0 x15_1).f2).length c203_2, .string (⟨#[]⟩ : ByteArray), .int .i64 0, .int .i64 0]) ?_ 3 _ rfl; (with_reducible repeat (first | refine zah ?_ _ | refine zaj ?_ | refine zae ?_ _)); refine zaQ (cs := #[.int .i64 ((zak l0_0 x15_1).f0), .slice A203_1 ((zak l0_0 x15_1).f1).length c203_1, .slice none 0 0, .string (⟨#[]⟩ : ByteArray), .int .i64 0, .int .i64 0]) ?_ 2 _ rfl; (with_reducible repeat (first | refine zah ?_ _ | refine zaj ?_ | refine zae ?_ _)); refine zaQ (cs := #[.int .i64 ((zak l0_0 x15_1).f0), .slice none 0 0, .slice none 0 0, .string (⟨#[]⟩ : ByteArray), .int .i64 0, .int .i64 0]) ?_ 1 _ rfl; (with_reducible repeat (first | refine zah ?_ _ | refine zaj ?_ | refine zae ?_ _)); refine zaQ (cs := #[.int .i64 0, .slice none 0 0, .slice none 0 0, .string (⟨#[]⟩ : ByteArray), .int .i64 0, .int .i64 0]) ?_ 0 _ rfl; (with_reducible repeat (first | refine zah ?_ _ | refine zaj ?_ | refine zae ?_ _)); exact BK204.out⟩, ⟨by repeat (first | (with_reducible first | exact HB.out | apply zad | apply zac | apply zaf | refine zam ?_ GE199.out | refine zam ?_ GE204.out) | exact HB.out)⟩⟩
        case round =>
         clear H'
         try clear c1
         try clear c2
         try clear c2b0
         try clear c2b1
         try clear p2
         try clear q2
         try clear hx2
         try clear c3
         try clear c3b0
         try clear c3b1
         try clear c6
         try clear c9
         try clear c9b0
         try clear c10
         try clear c10b0
         try clear c11
         try clear c11b0
         try clear c13
         try clear hcz14_0
         try clear hcz14_1
         try clear hcz14_2
         try clear hcz14_3
         try clear hcz14_4
         try clear hcz14_5
         try clear hcz5_0
         try clear hcz8_0
         try clear hfz14_0
         try clear hfz14_1
         try clear hfz14_2
         try clear hfz14_3
         try clear hfz14_4
         try clear hfz14_5
         try clear hfz5_0
         try clear hfz8_0
         try clear hx203_0
         try clear hx203_1
         try clear hx203_2
         try clear hx203_3
         try clear hx203_4
         try clear hx203_5
         try clear p2
         try clear p203
         try clear q203
         obtain ⟨x3_2, x22_2, rfl, HA, HK2, HO_3, BK199, BK204, HB⟩ := hrel
         cases gk with
         | zero => exact absurd HA.out (by simp [za1.l1])
         | succ k2 =>
          have H := HA.out
          clear HA
          simp only [za1.l1] at H
          by_cases c15 : x22_2 < (((zak l0_0 x15_1).f2).length : Int)
          ·rw [if_pos c15] at H
           have c15b0 : decide (x22_2 < (((zak l0_0 x15_1).f2).length : Int)) = true := decide_eq_true c15
           clear c15
           by_cases c16 : 0 ≤ x22_2
           ·rw [if_pos c16] at H
            have c16b0 : decide (0 ≤ x22_2) = true := decide_eq_true c16
            clear c16
            by_cases c17 : x22_2 < (((zak l0_0 x15_1).f2).length : Int)
            ·rw [if_pos c17] at H
             have c17b0 : decide (x22_2 < (((zak l0_0 x15_1).f2).length : Int)) = true := decide_eq_true c17
             clear c17
             by_cases c18 : 0 ≤ ((zau ((zak l0_0 x15_1).f2) x22_2).f1)
             ·rw [if_pos c18] at H
              have c18b0 : decide (0 ≤ ((zau ((zak l0_0 x15_1).f2) x22_2).f1)) = true := decide_eq_true c18
              clear c18
              by_cases c19 : ((zau ((zak l0_0 x15_1).f2) x22_2).f1) < (x3_2.length : Int)
              ·rw [if_pos c19] at H
               have c19b0 : decide (((zau ((zak l0_0 x15_1).f2) x22_2).f1) < (x3_2.length : Int)) = true := decide_eq_true c19
               clear c19
               obtain ⟨y208, hy208⟩ : ∃ y_ : List Int, y_ = (x3_2.set (((zau ((zak l0_0 x15_1).f2) x22_2).f1) : Int).toNat (wrap64 ((rd x3_2 ((zau ((zak l0_0 x15_1).f2) x22_2).f1)) + 1))) := ⟨_, rfl⟩
               replace H : (za1.l1 k2 y208 l0_0 (l0_0.length : Int) x15_1 ((zak l0_0 x15_1).f2) (((zak l0_0 x15_1).f2).length : Int) (wrap64 (x22_2 + 1))) = some r := by first | (rw [hy208]; with_reducible exact H) | (have H2_ := (Option.bind_some _ _).symm.trans H; rw [hy208]; with_reducible exact H2_) | (have H2_ := (Option.bind_some _ _).symm.trans H; with_reducible exact H2_) | with_reducible exact H | (rw [hy208]; exact H) | exact H
               have Ny208 := zab.mk hy208
               clear hy208
               have H' := zab.mk H
               clear H
               have p205 : 0 ≤ (x22_2 : Int) := of_decide_eq_true (by first | (with_reducible assumption) | assumption)
               have q205 : x22_2 < (((zak l0_0 x15_1).f2).length : Int) := of_decide_eq_true (by first | (with_reducible assumption) | assumption)
               obtain ⟨ad205, e205, hx205_0, hx205_1⟩ := zca HR203_2.out x22_2 p205 q205
               cases e205
               replace hx205_0 := (HB.out.cell (World.block_lt_of_cell? w _ hx205_0)).trans hx205_0
               replace hx205_1 := (HB.out.cell (World.block_lt_of_cell? w _ hx205_1)).trans hx205_1
               replace p205 := eq_true p205
               replace q205 := eq_true q205
               go_wp2_with (first | ((with_reducible refine zaY (N := 7) rfl ?_); refine zaN ?hg (N := 7) ?hd (cs := #[.string (⟨#[]⟩ : ByteArray), .int .i64 0]) (t := 50) ?hr ?_; (case hd => rfl); (case hg => rfl); (case hr => first | (go_simp; done) | (go_simp; rfl)); intro gb206 hg w21 hbox hb; have n0_ := zab.mk (Kd.R_below (by (with_reducible repeat (first | apply Kd.zbK | apply Kd.zbT | apply Kd.zcf)); exact HO_3.out) hb); have n1_ := zab.mk (zal (g := gb199) (o := .cells #[.slice (some ad203) l0_0.length c0_0] 24 (0, 0)) (by (with_reducible repeat (first | refine zah ?_ _ | refine zaj ?_ | refine zae ?_ _)); exact BK199.out) hb); have n2_ := zab.mk (zal (g := gb204) (o := .cells #[.int .i64 ((zak l0_0 x15_1).f0), .slice A203_1 ((zak l0_0 x15_1).f1).length c203_1, .slice (some ad205) ((zak l0_0 x15_1).f2).length c203_2, .string ((zak l0_0 x15_1).f3), .int .i64 ((zak l0_0 x15_1).f4), .int .i64 ((zak l0_0 x15_1).f5)] 40 (0, 0)) (by (with_reducible repeat (first | refine zah ?_ _ | refine zaj ?_ | refine zae ?_ _)); exact BK204.out) hb); have n3_ := zab.mk (zan (by repeat (first | (with_reducible first | exact HB.out | apply zad | apply zac | apply zaf | refine zam ?_ GE199.out | refine zam ?_ GE204.out) | exact HB.out)) hb); have n4_ := zab.mk (hbox); have n5_ := zab.mk ((by rw [hg]; exact (zaq (by repeat (first | (with_reducible first | exact HB.out | apply zad | apply zac | apply zaf | refine zam ?_ GE199.out | refine zam ?_ GE204.out) | exact HB.out))) : w.heap.size ≤ gb206)); have n6_ := zab.mk ((by rw [hg]; exact (zaq (by repeat (first | (with_reducible first | exact HB.out | apply zad | apply zac | apply zaf | refine zam ?_ GE199.out | refine zam ?_ GE204.out) | exact HB.out))) : w.heap.size ≤ gb206)); have n7_ := zab.mk ((by rw [hg]; exact Nat.ne_of_lt (zaZ (g := gb199) (o := .cells #[.slice (some ad203) l0_0.length c0_0] 24 (0, 0)) (by (with_reducible repeat (first | refine zah ?_ _ | refine zaj ?_ | refine zae ?_ _)); exact BK199.out)) : gb199 ≠ gb206)); have n8_ := zab.mk ((by rw [hg]; exact Nat.ne_of_gt (zaZ (g := gb199) (o := .cells #[.slice (some ad203) l0_0.length c0_0] 24 (0, 0)) (by (with_reducible repeat (first | refine zah ?_ _ | refine zaj ?_ | refine zae ?_ _)); exact BK199.out)) : gb206 ≠ gb199)); have n9_ := zab.mk ((by rw [hg]; exact Nat.ne_of_lt (zaZ (g := gb204) (o := .cells #[.int .i64 ((zak l0_0 x15_1).f0), .slice A203_1 ((zak l0_0 x15_1).f1).length c203_1, .slice (some ad205) ((zak l0_0 x15_1).f2).length c203_2, .string ((zak l0_0 x15_1).f3), .int .i64 ((zak l0_0 x15_1).f4), .int .i64 ((zak l0_0 x15_1).f5)] 40 (0, 0)) (by (with_reducible repeat (first | refine zah ?_ _ | refine zaj ?_ | refine zae ?_ _)); exact BK204.out)) : gb204 ≠ gb206)); have n10_ := zab.mk ((by rw [hg]; exact Nat.ne_of_gt (zaZ (g := gb204) (o := .cells #[.int .i64 ((zak l0_0 x15_1).f0), .slice A203_1 ((zak l0_0 x15_1).f1).length c203_1, .slice (some ad205) ((zak l0_0 x15_1).f2).length c203_2, .string ((zak l0_0 x15_1).f3), .int .i64 ((zak l0_0 x15_1).f4), .int .i64 ((zak l0_0 x15_1).f5)] 40 (0, 0)) (by (with_reducible repeat (first | refine zah ?_ _ | refine zaj ?_ | refine zae ?_ _)); exact BK204.out)) : gb206 ≠ gb204)); clear HO_3; clear BK199; clear BK204; clear HB; have HO_3 := n0_; have BK199 := n1_; have BK204 := n2_; have HB := n3_; have BK206 := n4_; have GW206 := n5_; have GE206 := n6_; have NB199_206 := n7_; have NB206_199 := n8_; have NB204_206 := n9_; have NB206_204 := n10_; clear n0_ n1_ n2_ n3_ n4_ n5_ n6_ n7_ n8_ n9_ n10_; clear hb hbox hg; have hnb22 := NB206_199.out; have hnc22 := NB199_206.out; have hnb23 := NB206_204.out; have hnc23 := NB204_206.out; have hcz24_0 : w21.cell? ⟨gb206, 0, none⟩ = some (.string (⟨#[]⟩ : ByteArray)) := (zaa BK206.out 0).trans rfl; have hcz24_1 : w21.cell? ⟨gb206, 1, none⟩ = some (.int .i64 0) := (zaa BK206.out 1).trans rfl; have hfz24_0 := zai BK206.out 0; have hfz24_1 := zai BK206.out 1) | ((with_reducible refine gate_store (t := 50) (p := 7) rfl ?_); refine store_event (t := 50) (p := 7) (v := ?vo_w25) (w1 := ((w21.setCell ⟨gb206, 0, none⟩ (.string ((zau ((zak l0_0 x15_1).f2) x22_2).f0))).setCell ⟨gb206, 1, none⟩ (.int .i64 ((zau ((zak l0_0 x15_1).f2) x22_2).f1)))) ?hg ?ho ?hn ?hr ?_; (case ho => rfl); (case hg => rfl); (case hn => rfl); (case hr => first | (go_simp; done) | (go_simp; rfl)); intro w25 hw; have n0_ : zab (Kd.R (Kd.int .i64) 3 w25 w.heap.size (fun _ => True) v201 x3_2) := ⟨(by rw [hw]; exact (by (with_reducible repeat (first | apply Kd.zbK | apply Kd.zbT | apply Kd.zcf)); exact Kd.zbG (Kd.R_far (p := ⟨gb206, 1, none⟩) (Kd.R_far (p := ⟨gb206, 0, none⟩) (Kd.zcs HO_3.out BK206.out (by decide)) (fun _ hk => hk.2) (.string ((zau ((zak l0_0 x15_1).f2) x22_2).f0))) (fun _ hk => hk.2) (.int .i64 ((zau ((zak l0_0 x15_1).f2) x22_2).f1))) (fun _ hk => trivial)))⟩; have n1_ : zab (w25.heap[gb199]? = some (.cells #[.slice (some ad203) l0_0.length c0_0] 24 (0, 0))) := ⟨(by rw [hw]; exact (by (with_reducible repeat (first | refine zah ?_ _ | refine zaj ?_ | refine zae ?_ _)); refine zaH ?_ NB199_206.out _; (with_reducible repeat (first | refine zah ?_ _ | refine zaj ?_ | refine zae ?_ _)); refine zaH ?_ NB199_206.out _; (with_reducible repeat (first | refine zah ?_ _ | refine zaj ?_ | refine zae ?_ _)); exact BK199.out))⟩; have n2_ : zab (w25.heap[gb204]? = some (.cells #[.int .i64 ((zak l0_0 x15_1).f0), .slice A203_1 ((zak l0_0 x15_1).f1).length c203_1, .slice (some ad205) ((zak l0_0 x15_1).f2).length c203_2, .string ((zak l0_0 x15_1).f3), .int .i64 ((zak l0_0 x15_1).f4), .int .i64 ((zak l0_0 x15_1).f5)] 40 (0, 0))) := ⟨(by rw [hw]; exact (by (with_reducible repeat (first | refine zah ?_ _ | refine zaj ?_ | refine zae ?_ _)); refine zaH ?_ NB204_206.out _; (with_reducible repeat (first | refine zah ?_ _ | refine zaj ?_ | refine zae ?_ _)); refine zaH ?_ NB204_206.out _; (with_reducible repeat (first | refine zah ?_ _ | refine zaj ?_ | refine zae ?_ _)); exact BK204.out))⟩; have n3_ : zab (w25.heap[gb206]? = some (.cells #[.string ((zau ((zak l0_0 x15_1).f2) x22_2).f0), .int .i64 ((zau ((zak l0_0 x15_1).f2) x22_2).f1)] 50 (0, 0))) := ⟨(by rw [hw]; exact (by (with_reducible repeat (first | refine zah ?_ _ | refine zaj ?_ | refine zae ?_ _)); refine zaQ (cs := #[.string ((zau ((zak l0_0 x15_1).f2) x22_2).f0), .int .i64 0]) ?_ 1 _ rfl; (with_reducible repeat (first | refine zah ?_ _ | refine zaj ?_ | refine zae ?_ _)); refine zaQ (cs := #[.string (⟨#[]⟩ : ByteArray), .int .i64 0]) ?_ 0 _ rfl; (with_reducible repeat (first | refine zah ?_ _ | refine zaj ?_ | refine zae ?_ _)); exact BK206.out))⟩; have n4_ : zab (Below w.heap.size w w25) := ⟨(by rw [hw]; exact (by repeat (first | (with_reducible first | exact HB.out | apply zad | apply zac | apply zaf | refine zam ?_ GE199.out | refine zam ?_ GE204.out | refine zam ?_ GE206.out) | exact HB.out)))⟩; clear hw; clear HO_3; clear BK199; clear BK204; clear BK206; clear HB; have HO_3 := n0_; have BK199 := n1_; have BK204 := n2_; have BK206 := n3_; have HB := n4_; clear n0_ n1_ n2_ n3_ n4_; have hcz26_0 : w25.cell? ⟨gb206, 0, none⟩ = some (.string ((zau ((zak l0_0 x15_1).f2) x22_2).f0)) := (zaa BK206.out 0).trans rfl; have hcz26_1 : w25.cell? ⟨gb206, 1, none⟩ = some (.int .i64 ((zau ((zak l0_0 x15_1).f2) x22_2).f1)) := (zaa BK206.out 1).trans rfl; have hfz26_0 := zai BK206.out 0; have hfz26_1 := zai BK206.out 1; obtain ⟨Ao27, co27, eo27⟩ := Kd.zb2 HO_3.out; subst eo27; have p207 : 0 ≤ (((zau ((zak l0_0 x15_1).f2) x22_2).f1) : Int) := of_decide_eq_true (by first | (with_reducible assumption) | assumption); have q207 : ((zau ((zak l0_0 x15_1).f2) x22_2).f1) < (x3_2.length : Int) := of_decide_eq_true (by first | (with_reducible assumption) | assumption); obtain ⟨ad207, e207, hx207_0⟩ := Kd.at_int (Kd.zcq HO_3.out).2.2 ((zau ((zak l0_0 x15_1).f2) x22_2).f1) p207 q207; cases e207; replace p207 := eq_true p207; replace q207 := eq_true q207; have p20 : 0 ≤ (((zau ((zak l0_0 x15_1).f2) x22_2).f1) : Int) := of_decide_eq_true (by first | (with_reducible assumption) | assumption); have q20 : (((zau ((zak l0_0 x15_1).f2) x22_2).f1) : Int) < ((x3_2.length : Int) : Int) := of_decide_eq_true (by first | (with_reducible assumption) | assumption); obtain ⟨go20, co20, eo20, gb20, gl20, cl20, HG20⟩ := Kd.R_form HO_3.out (by omega); (first | cases eo20 | (injection eo20 with ea_ en_ ec_; (first | subst ea_ | (injection ea_ with ea_; subst ea_)); subst ec_; clear en_)); have GB20 := zab.mk gb20; have GG20 := zab.mk HG20; clear gb20 gl20 HG20; (first | simp only [add_plain] at hx207_0 | skip); obtain ⟨hx20_0, hf20_0⟩ := Kd.R_celln 0 HO_3.out (((zau ((zak l0_0 x15_1).f2) x22_2).f1) : Int) p20 q20; replace p20 := eq_true p20; replace q20 := eq_true q20; obtain ⟨hy28_, hz28_⟩ := Kd.R_celln 0 HO_3.out (((zau ((zak l0_0 x15_1).f2) x22_2).f1) : Int) (of_decide_eq_true (by first | (with_reducible assumption) | assumption)) (of_decide_eq_true (by first | (with_reducible assumption) | assumption)); have HP28 := Kd.R_putg HO_3.out (((zau ((zak l0_0 x15_1).f2) x22_2).f1) : Int) (wrap64 ((rd x3_2 ((zau ((zak l0_0 x15_1).f2) x22_2).f1)) + 1))) | ((with_reducible refine gate_store (t := 3) (p := 32) rfl ?_); refine store_event (t := 3) (p := 32) (v := ?vo_w29) (w1 := (w25.setCell ⟨go20, (((zau ((zak l0_0 x15_1).f2) x22_2).f1) : Int).toNat, none⟩ (.int .i64 (wrap64 ((rd x3_2 ((zau ((zak l0_0 x15_1).f2) x22_2).f1)) + 1))))) ?hg ?ho ?hn ?hr ?_; (case ho => rfl); (case hg => rfl); (case hn => rfl); (case hr => first | (go_simp; done) | (go_simp; rfl)); intro w29 hw; have hg : w25.grownBy w29 (some go20) := (by rw [hw]; exact HP28.2); have hp_ : Kd.R (Kd.int .i64) 3 w29 w.heap.size (fun _ => True) (.slice (some ⟨go20, 0, none⟩) x3_2.length co27) y208 := (by rw [hw, Ny208.out]; exact HP28.1); clear HP28; have n0_ := zab.mk (hp_); have n1_ := zab.mk (zbv (g := gb199) (o := .cells #[.slice (some ad203) l0_0.length c0_0] 24 (0, 0)) (by (with_reducible repeat (first | refine zah ?_ _ | refine zaj ?_ | refine zae ?_ _)); exact BK199.out) hg (Kd.R_ne HO_3.out BK199.out (by decide))); have n2_ := zab.mk (zbv (g := gb204) (o := .cells #[.int .i64 ((zak l0_0 x15_1).f0), .slice A203_1 ((zak l0_0 x15_1).f1).length c203_1, .slice (some ad205) ((zak l0_0 x15_1).f2).length c203_2, .string ((zak l0_0 x15_1).f3), .int .i64 ((zak l0_0 x15_1).f4), .int .i64 ((zak l0_0 x15_1).f5)] 40 (0, 0)) (by (with_reducible repeat (first | refine zah ?_ _ | refine zaj ?_ | refine zae ?_ _)); exact BK204.out) hg (Kd.R_ne HO_3.out BK204.out (by decide))); have n3_ := zab.mk (zbv (g := gb206) (o := .cells #[.string ((zau ((zak l0_0 x15_1).f2) x22_2).f0), .int .i64 ((zau ((zak l0_0 x15_1).f2) x22_2).f1)] 50 (0, 0)) (by (with_reducible repeat (first | refine zah ?_ _ | refine zaj ?_ | refine zae ?_ _)); exact BK206.out) hg (Kd.R_ne HO_3.out BK206.out (by decide))); have n4_ := zab.mk ((by rw [hw]; exact zam (HB.out) GB20.out : Below w.heap.size w w29)); clear HO_3; clear BK199; clear BK204; clear BK206; clear HB; have HO_3 := n0_; have BK199 := n1_; have BK204 := n2_; have BK206 := n3_; have HB := n4_; clear n0_ n1_ n2_ n3_ n4_; clear hg hw hp_))
               go_roundg k2
               case measure => have := HK1.out; have := HK2.out; omega
               case rel => exact ⟨(y208), (wrap64 (x22_2 + 1)), (by first | rfl | (simp; done) | (simp [*]; done)), H', ⟨by have := HK1.out; have := HK2.out; omega⟩, ⟨by (with_reducible repeat (first | apply Kd.zbK | apply Kd.zbT | apply Kd.zcf)); exact HO_3.out⟩, ⟨by (with_reducible repeat (first | refine zah ?_ _ | refine zaj ?_ | refine zae ?_ _)); exact BK199.out⟩, ⟨by (with_reducible repeat (first | refine zah ?_ _ | refine zaj ?_ | refine zae ?_ _)); exact BK204.out⟩, ⟨by repeat (first | (with_reducible first | exact HB.out | apply zad | apply zac | apply zaf | refine zam ?_ GE199.out | refine zam ?_ GE204.out | refine zam ?_ GE206.out) | exact HB.out)⟩⟩
              ·rw [if_neg c19] at H
               exact absurd H (by simp)
             ·rw [if_neg c18] at H
              exact absurd H (by simp)
            ·rw [if_neg c17] at H
             exact absurd H (by simp)
           ·rw [if_neg c16] at H
            exact absurd H (by simp)
          ·rw [if_neg c15] at H
           have c15b0 : decide (x22_2 < (((zak l0_0 x15_1).f2).length : Int)) = false := decide_eq_false c15
           clear c15
           have H' := zab.mk H
           clear H
           go_wp2
           go_roundg k2
           case measure => have := HK1.out; have := HK2.out; omega
           case rel => exact ⟨(x3_2), (wrap64 (x15_1 + 1)), (by first | rfl | (simp; done) | (simp [*]; done)), H', ⟨by have := HK1.out; have := HK2.out; omega⟩, ⟨by (with_reducible repeat (first | apply Kd.zbK | apply Kd.zbT | apply Kd.zcf)); exact HO_3.out⟩, ⟨by (with_reducible repeat (first | refine zah ?_ _ | refine zaj ?_ | refine zae ?_ _)); exact BK199.out⟩, ⟨by repeat (first | (with_reducible first | exact HB.out | apply zad | apply zac | apply zaf | refine zam ?_ GE199.out | refine zam ?_ GE204.out) | exact HB.out)⟩⟩
       ·rw [if_neg c11] at H
        exact absurd H (by simp)
      ·rw [if_neg c10] at H
       exact absurd H (by simp)
     ·rw [if_neg c9] at H
      have c9b0 : decide (x15_1 < (l0_0.length : Int)) = false := decide_eq_false c9
      clear c9
      obtain rfl := Option.some.inj H
      go_wp2
      go_ret
      exact ⟨_, by first | rfl | (simp [zaw, zav] <;> rfl) | (simp [*, zaw, zav] <;> rfl), by (with_reducible repeat (first | apply Kd.zbK | apply Kd.zbT | apply Kd.zcf)); exact HO_3.out, by repeat (first | (with_reducible first | exact HB.out | apply zad | apply zac | apply zaf | refine zam ?_ GE199.out) | exact HB.out)⟩
  ·rw [if_neg c3] at H
   exact absurd H (by simp)
 ·rw [if_neg c2] at H
  exact absurd H (by simp)
def WalkSt (W : World) (B g : Nat) (A : Option Addr) (n c : Nat) (s : List Bool) (q : List Int) : Prop :=
 B ≤ g ∧ ∃ sv tv, W.heap[g]? = some (.cells #[.slice A n c, sv, tv] 121 (0, 0)) ∧ Kd.R Kd.bool 4 W B (fun _ => True) sv s ∧ Kd.Q (Kd.int .i64) 3 W B (fun _ => True) tv q
def newDir (l : List S40) (s : List Bool) (x : Int) : Bool := ((zak l x).f0 == 2) && !(rdOf false s x)
def meetF (l : List S40) (st : List Bool × List Int) (x : Int) : List Bool × List Int := if newDir l st.1 x = true then (st.1.set x.toNat true, st.2 ++ [x]) else st
set_option maxHeartbeats 2000000 in
set_option maxRecDepth 100000 in
theorem meet_calls (l : List S40) (A : Option Addr) (c g : Nat) (s : List Bool) (q : List Int) (x : Int) (w0 w : World) (hr : Kd.C k40 w0 A l.length l) (hb : Below w0.heap.size w0 w) (hst : WalkSt w w0.heap.size g A l.length c s q)
  (h0 : 0 ≤ x) (h1 : x < (l.length : Int)) (hs : s.length = l.length) (hq : q.length < 17592186044416) :
  Calls Tryz.prog 94 #[.pointer (some ⟨g, 0, none⟩), .int .i64 x] w fun e w' => e = .returned (.tuple #[]) ∧ WalkSt w' w0.heap.size g A l.length c (meetF l (s, q) x).1 (meetF l (s, q) x).2 ∧ Below w0.heap.size w0 w' := by
 have HW0 := zab.mk hst
 obtain ⟨hg0, sv, tv, hg, hR, hQ⟩ := hst
 obtain ⟨ad, A1, c1, A2, c2, rfl, hx0, hx1, hx2, hx3, hx4, hx5, hl1, hi1, hl2, hi2⟩ := zbl hr x h0 h1
 clear hx1 hx2 hx3 hx4 hx5 hl1 hi1 hl2 hi2
 replace hx0 := (hb.cell (World.block_lt_of_cell? w0 _ hx0)).trans hx0
 obtain ⟨sg, cap, rfl, hsg, hsl, cells, hsb⟩ := Kd.R_form hR (by omega)
 obtain ⟨hsc, hsf⟩ := Kd.R_cell false hR x h0 (by omega)
 obtain ⟨tA, tc, rfl, _⟩ := Kd.Q_slice hQ
 have hc0 : w.cell? ⟨g, 0, none⟩ = some (.slice (some ad) l.length c) := (zaa hg 0).trans rfl
 have hc1 : w.cell? ⟨g, 1, none⟩ = some (.slice (some ⟨sg, 0, none⟩) s.length cap) := (zaa hg 1).trans rfl
 have hc2 : w.cell? ⟨g, 2, none⟩ = some (.slice tA q.length tc) := (zaa hg 2).trans rfl
 have p0 := eq_true h0
 have p1 := eq_true h1
 have p2 := eq_true (show x < (s.length : Int) by omega)
 by_cases ck : (zak l x).f0 = 2
 ·have hk : ((zak l x).f0 == 2) = true := by simpa using ck
  cases hsn : rdOf false s x
  ·have HM : zab (meetF l (s, q) x = (s.set x.toNat true, q ++ [x])) := ⟨by unfold meetF newDir; simp [ck, hsn]⟩
   rw [hsn] at hsc
   have hne : g ≠ sg := blk_ne hg hsb (by decide)
   have HR1 := zab.mk (Kd.R_put hR x true).1
   have HQ1 := zab.mk (Kd.Q_set hQ hsb (by decide) x.toNat (.bool true))
   have HG1 := zab.mk (zaH hg (p := ⟨sg, x.toNat, none⟩) hne (.bool true))
   have HB1 := zab.mk (hb.setCell (p := ⟨sg, x.toNat, none⟩) hsg (.bool true))
   have hd2 : (w.setCell ⟨sg, x.toNat, none⟩ (.bool true)).cell? ⟨g, 2, none⟩ = some (.slice tA q.length tc) := (zaa HG1.out 2).trans rfl
   have HNE := zab.mk (Kd.Q_ne HQ1.out HG1.out (by decide))
   have HQL := zab.mk hq
   clear ck hsn hR hQ hg hsb hb hq
   go_enter Tryz.func94, Tryz.ntmps94
   go_wp2_with (first | (at_builtin; refine Kd.Q_append (Kd.int .i64) (w0 := w0) w0.heap.size rfl (.tmp 34) (.tmp 36) 95 3 (.int .i64 0) 8 rfl Tryz.underlying95 info3 rfl (by decide) (by omega) (.slice tA q.length tc) q x [.int .i64 x] (fun _ => True) (fun _ => False) rfl ?hx ?hp (fun _ hk => hk.elim) (fun _ _ => trivial) ?ho ?hb ?hs ?hl ?_; (case hx => exact congrArg (fun n => Value.slice (some ⟨n, 0, none⟩) 1 1) (show w.heap.size = (w.setCell ⟨sg, x.toNat, none⟩ (.bool true)).heap.size by simp [World.setCell])); (case hp => exact rfl); (case ho => exact HQ1.out); (case hb => exact HB1.out); (case hs => exact HB1.out.size); (case hl => have := HQL.out; omega); intro v1 w2 hq2 hb2 hg2 hat; obtain ⟨tA2, tc2, rfl, _⟩ := Kd.Q_slice hq2; have HQ2 := zab.mk hq2; have HB2 := zab.mk hb2; have HG2 := zab.mk (zbv HG1.out hg2 HNE.out); have HR2 := zab.mk (Kd.R_over' HR1.out (Kd.Q_typed HQ1.out) (by decide) hg2); have hd3 : w2.cell? ⟨g, 2, none⟩ = some (.slice tA q.length tc) := (zaa HG2.out 2).trans rfl; have hf3 : w2.frozen? ⟨g, 2, none⟩ = false := zai HG2.out 2; clear hq2 hb2 hg2 hat))
   go_end0
   refine ⟨rfl, ?_, HB2.out.setCell (p := ⟨g, 2, none⟩) hg0 _⟩
   rw [HM.out]
   have HQ3 := Kd.Q_set HQ2.out HG2.out (by decide) 2 (.slice tA2 (q.length + 1) tc2)
   rw [show (q ++ [x]).length = q.length + 1 by simp] at HQ3
   exact ⟨hg0, _, _, zaQ HG2.out 2 _ rfl, Kd.R_set HR2.out HG2.out (by decide) 2 _, HQ3⟩
  ·have HM : zab (meetF l (s, q) x = (s, q)) := ⟨by unfold meetF newDir; simp [ck, hsn]⟩
   rw [hsn] at hsc
   have HB0 := zab.mk hb
   clear ck hsn hR hQ hg hsb hb hq
   go_enter Tryz.func94, Tryz.ntmps94
   go_wp2
   go_end0
   exact ⟨rfl, by rw [HM.out]; exact HW0.out, HB0.out⟩
 ·have hk : ((zak l x).f0 == 2) = false := by simpa using ck
  have HM : zab (meetF l (s, q) x = (s, q)) := ⟨by unfold meetF newDir; simp [ck]⟩
  have HB0 := zab.mk hb
  clear ck hR hQ hg hsb hb hq
  go_enter Tryz.func94, Tryz.ntmps94
  go_wp2
  go_end0
  exact ⟨rfl, by rw [HM.out]; exact HW0.out, HB0.out⟩
theorem WalkSt.alloc {W : World} {B g : Nat} {A : Option Addr} {n c : Nat} {s : List Bool} {q : List Int} (h : WalkSt W B g A n c s q) (o : Obj) : WalkSt (W.alloc o) B g A n c s q := by
 obtain ⟨h0, sv, tv, hg, hR, hQ⟩ := h
 exact ⟨h0, sv, tv, ((zad (Below.refl W.heap.size W) o).block g (zaZ hg)).trans hg, Kd.zbK hR o, Kd.Q_alloc hQ o⟩
theorem meetF_len (l : List S40) (st : List Bool × List Int) (x : Int) : (meetF l st x).1.length = st.1.length := by
 unfold meetF; split <;> simp
def meets (l : List S40) : List S50 → List Bool × List Int → Option (List Bool × List Int)
 | [], st => some st
 | x :: r, st => if 0 ≤ x.f1 ∧ x.f1 < (l.length : Int) ∧ st.2.length < 17592186044416 then meets l r (meetF l st x.f1) else none
theorem meets_drop (l : List S40) (ns : List S50) (i : Nat) (h : i < ns.length) (st : List Bool × List Int) : meets l (ns.drop i) st = if 0 ≤ (zau ns i).f1 ∧ (zau ns i).f1 < (l.length : Int) ∧ st.2.length < 17592186044416 then meets l (ns.drop (i + 1)) (meetF l st (zau ns i).f1) else none := by
 rw [List.drop_eq_getElem_cons h]
 have e : zau ns (i : Int) = ns[i] := by simp [zau, List.getD, List.getElem?_eq_getElem h]
 rw [meets, e]
def reachF : Nat → List S40 → List Bool → List Int → Option (List Bool)
 | 0, _, _, _ => none
 | k + 1, l, s, q => match q with
  | [] => some s
  | n :: q' => if 0 ≤ n ∧ n < (l.length : Int) then (meets l (zak l n).f2 (s, q')).bind fun st => reachF k l st.1 st.2 else none
theorem reachF_mono : ∀ k l s q, LeO (reachF k l s q) (reachF (k + 1) l s q)
 | 0, _, _, _ => fun _ h => by simp [reachF] at h
 | k + 1, l, s, q => by
  unfold reachF
  split
  ·exact LeO.refl _
  ·refine LeO.ite (LeO.bind (LeO.refl _) fun st => ?_) (LeO.refl _)
   exact reachF_mono k l st.1 st.2
def zaF.f (k : Nat) (l0_0 : List S40) : Option (List Bool) := if 0 < l0_0.length then (if l0_0.length ≤ 281474976710656 then reachF k l0_0 (meetF l0_0 (List.replicate l0_0.length false, []) 0).1 (meetF l0_0 (List.replicate l0_0.length false, []) 0).2 else none) else none
theorem zaF.mono : ∀ a0 k, LeO (zaF.f k a0) (zaF.f (k + 1) a0) := fun a0 k => LeO.ite (LeO.ite (reachF_mono _ _ _ _) (LeO.refl _)) (LeO.refl _)
def zaF.W1 (w : World) (A : Option Addr) (n c : Nat) : World := w.alloc (.cells #[.slice A n c] 24)
def zaF.W (w : World) (A : Option Addr) (n c : Nat) : World := (((w.alloc (.cells #[.slice A n c] 24)).alloc (.cells (madeCells #[.bool false] n) 4)).alloc (.cells #[.slice A n c, .slice (some ⟨w.heap.size + 1, 0, none⟩) n n, .slice none 0 0] 121)).drew
theorem zaF.W_below (w : World) (A : Option Addr) (n c : Nat) : Below (zaF.W1 w A n c).heap.size (zaF.W1 w A n c) (zaF.W w A n c) := zas (zad (zad (Below.refl _ _) _) _)
theorem zaF.zbk (w : World) (A : Option Addr) (n c : Nat) : Below w.heap.size w (zaF.W1 w A n c) := zad (Below.refl _ _) _
theorem zaF.W_st (w : World) (A : Option Addr) (n c : Nat) (hn : n ≤ 9223372036854775807) : WalkSt (zaF.W w A n c) (zaF.W1 w A n c).heap.size (w.heap.size + 1 + 1) A n c (List.replicate n false) [] := by
 have h2 := own_made_of (enc := Value.bool) (d := false) (zaF.W1 w A n c) (zaF.W1 w A n c).heap.size 4 n (Nat.le_refl _) hn
 have h3 := zbd (((w.alloc (.cells #[.slice A n c] 24)).alloc (.cells (madeCells #[.bool false] n) 4))) (.cells #[.slice A n c, .slice (some ⟨w.heap.size + 1, 0, none⟩) n n, .slice none 0 0] 121)
 rw [World.size_alloc, World.size_alloc] at h3
 have e1 : (zaF.W1 w A n c).heap.size = w.heap.size + 1 := World.size_alloc _ _
 refine ⟨by omega, _, _, h3, ?_, Kd.Q_nil _ _ _ _ _⟩
 rw [e1] at h2 ⊢
 have h4 : (((zaF.W1 w A n c).alloc (.cells (madeCells #[.bool false] n) 4))).ownsRow (w.heap.size + 1) 4 1 (.slice (some ⟨w.heap.size + 1, 0, none⟩) n n) (List.replicate n false).length (encs Value.bool (List.replicate n false)) := by rw [List.length_replicate]; exact h2
 have h5 := Kd.R_of_own (ok := fun _ => True) (h1 := fun _ => rfl) h4 (fun _ _ => trivial)
 exact Kd.zcf (Kd.zbK h5 _)
theorem zaF.zb8 {w w' : World} {A : Option Addr} {n c : Nat} (h : Below (zaF.W1 w A n c).heap.size (zaF.W1 w A n c) w') : w'.cell? ⟨w.heap.size, 0, none⟩ = some (.slice A n c) :=
 (zaa ((h.block w.heap.size (by show _ < (w.alloc _).heap.size; simp)).trans (zbd w _)) 0).trans rfl
set_option maxHeartbeats 4000000 in
set_option maxRecDepth 100000 in
theorem zaF.calls (k : Nat) (A0_0 : Option Addr) (c0_0 : Nat) (l0_0 : List S40) (r : List Bool) (w : World) (hr0_0 : Kd.C k40 w A0_0 l0_0.length l0_0) (hc0_0 : l0_0.length ≤ c0_0) (h : zaF.f k l0_0 = some r) :
  Calls Tryz.prog 62 #[.agg #[.slice A0_0 l0_0.length c0_0]] w fun e w' => ∃ v0_ : Value, e = .returned (v0_) ∧ Kd.R Kd.bool 4 w' w.heap.size (fun _ => True) v0_ r ∧ Below w.heap.size w w' := by
 unfold zaF.f at h
 split at h
 ·rename_i hp
  split at h
  ·rename_i hm
   have HH := zab.mk h
   have HR := zab.mk hr0_0
   have HP := zab.mk hp
   have HL := zab.mk (show l0_0.length ≤ 9223372036854775807 by omega)
   have hmk := print_make_of (P := Tryz.prog) 97 4 (.bool false) 1 Tryz.underlying97 (by kernel_rfl) rfl (by decide) l0_0.length (by omega)
   have hut := Tryz.underlying24
   have huw := Tryz.underlying121
   have hun := Tryz.underlying50
   have hmf : ∀ (fn : Fn) (first cap : Array Value) (w : World), (Instr.makeFunc fn first cap).run Tryz.prog w = .ok (.func fn first cap) w := fun _ _ _ _ => rfl
   clear h hr0_0 hc0_0 hp hm
   have HR1 := zab.mk (Kd.C_below HR.out (zaF.zbk w A0_0 l0_0.length c0_0))
   have hmf : ∀ (fn : Fn) (first cap : Array Value) (w : World), (Instr.makeFunc fn first cap).run Tryz.prog w = .ok (.func fn first cap) w := fun _ _ _ _ => rfl
   go_enter Tryz.func62, Tryz.ntmps62
   go_wp2
   go_region
   go_wp2_with (first | (go_at_call 94; refine (meet_calls l0_0 A0_0 c0_0 (w.heap.size + 1 + 1) (List.replicate l0_0.length false) [] 0 (zaF.W1 w A0_0 l0_0.length c0_0) (zaF.W w A0_0 l0_0.length c0_0) HR1.out (zaF.W_below _ _ _ _) (zaF.W_st _ _ _ _ HL.out) (by omega) (by have := HP.out; omega) (by simp) (by simp)).mono ?_; rintro e w1 ⟨rfl, hst, hb⟩; have HST := zab.mk hst; have HB := zab.mk hb; clear hst hb))
   go_loopg [] k (fun kq w' => ∃ (s : List Bool) (q : List Int), zab (reachF kq l0_0 s q = some r) ∧ zab (kq ≤ k) ∧ zab (s.length = l0_0.length) ∧ zab (WalkSt w' (zaF.W1 w A0_0 l0_0.length c0_0).heap.size (w.heap.size + 1 + 1) A0_0 l0_0.length c0_0 s q) ∧ zab (Below (zaF.W1 w A0_0 l0_0.length c0_0).heap.size (zaF.W1 w A0_0 l0_0.length c0_0) w'))
   case atStart => exact ⟨_, _, HH, ⟨Nat.le_refl _⟩, ⟨by rw [meetF_len]; simp⟩, HST, HB⟩
   case round =>
    clear HST HB
    obtain ⟨s, q, HE, HK, HSL, HST, HB⟩ := hrel
    cases gk with
    | zero => exact absurd HE.out (by simp [reachF])
    | succ k1 =>
     obtain ⟨hg0, sv, tv, hg, hR, hQ⟩ := HST.out
     obtain ⟨sA, sc, rfl⟩ := Kd.zb2 hR
     obtain ⟨tA, tc, rfl, htc⟩ := Kd.Q_slice hQ
     have hc1 : wr.cell? ⟨w.heap.size + 1 + 1, 1, none⟩ = some (.slice sA s.length sc) := (zaa hg 1).trans rfl
     have hc2 : wr.cell? ⟨w.heap.size + 1 + 1, 2, none⟩ = some (.slice tA q.length tc) := (zaa hg 2).trans rfl
     have hf2 : wr.frozen? ⟨w.heap.size + 1 + 1, 2, none⟩ = false := zai hg 2
     have hct := zaF.zb8 HB.out
     have HG := zab.mk hg
     have HRR := zab.mk hR
     have HQ := zab.mk hQ
     have HE' := HE.out
     clear hg hR hQ HE
     cases q with
     | nil =>
      rw [reachF] at HE'
      obtain rfl := Option.some.inj HE'
      go_wp2
      go_ret
      exact ⟨_, rfl, Kd.R_lower HRR.out (zaF.zbk w A0_0 l0_0.length c0_0).size, zan (zaF.zbk _ _ _ _) HB.out⟩
     | cons n q' =>
      rw [reachF] at HE'
      by_cases hn : 0 ≤ n ∧ n < (l0_0.length : Int)
      ·rw [if_pos hn] at HE'
       obtain ⟨st, hst, hrec⟩ := Option.bind_eq_some_iff.mp HE'
       obtain ⟨hn0, hn1⟩ := hn
       have HME := zab.mk hst
       have HRE := zab.mk hrec
       clear HE' hst hrec
       obtain ⟨_, _, hCq⟩ := Kd.Q_reads' HQ.out
       obtain ⟨qa, eqa, hq0⟩ := Kd.at_int hCq 0 (by omega) (by simp)
       subst eqa
       have hq0' : wr.cell? (qa.add 0) = some (.int .i64 n) := hq0
       have hq1' : wr.cell? qa = some (.int .i64 n) := by rw [← hq0']; congr 1
       obtain ⟨i0, hi0, _, hsz, _⟩ := info_parts info3
       have hcut := cut_from (P := Tryz.prog) 95 3 .i64 Tryz.underlying95 hi0 1 hsz (some qa) (n :: q').length tc 1 (by omega) (by simp; omega)
       have hQd := Kd.Q_drop (k := 1) HQ.out (by simp)
       obtain ⟨A', hA'⟩ : ∃ A1, A1 = (if tc = 1 then some qa else (some qa : Option Addr).map (·.add (1 * 1))) := ⟨_, rfl⟩
       have e1 : (1 : Int).toNat = 1 := rfl
       rw [e1, ← hA'] at hcut
       replace hQd : Kd.Q (Kd.int .i64) 3 wr (zaF.W1 w A0_0 l0_0.length c0_0).heap.size (fun _ => True) (.slice A' q'.length (tc - 1)) q' := by rw [hA']; exact hQd
       have ecut : (n :: q').length - 1 = q'.length := by simp
       rw [ecut] at hcut
       rw [List.length_cons] at hcut
       rw [List.length_cons] at hc2
       have HQD := zab.mk hQd
       clear hQd e1 hA' ecut hq0 hCq hi0 hsz
       have HB2 := zab.mk (HB.out.setCell (p := ⟨w.heap.size + 1 + 1, 2, none⟩) hg0 (.slice A' q'.length (tc - 1)))
       have HST2 : zab (WalkSt (wr.setCell ⟨w.heap.size + 1 + 1, 2, none⟩ (.slice A' q'.length (tc - 1))) (zaF.W1 w A0_0 l0_0.length c0_0).heap.size (w.heap.size + 1 + 1) A0_0 l0_0.length c0_0 s q') := ⟨hg0, _, _, zaQ HG.out 2 _ rfl, Kd.R_set HRR.out HG.out (by decide) 2 _, Kd.Q_set HQD.out HG.out (by decide) 2 _⟩
       have hct2 := zaF.zb8 HB2.out
       obtain ⟨na, A1, c1, A2, c2, rfl, hx0, hx1, hx2, hx3, hx4, hx5, hl1, hi1, hl2, hi2⟩ := zbl HR1.out n hn0 hn1
       replace hx2 := (HB2.out.cell (World.block_lt_of_cell? _ _ hx2)).trans hx2
       have HI2 := zab.mk hi2
       have HL2 := zab.mk hl2
       have HM2 := zab.mk hi2.2.1
       have p0 := eq_true hn0
       have p1 := eq_true hn1
       clear hx0 hx1 hx3 hx4 hx5 hl1 hi1 hi2 hl2 HB HG HRR HQD HQ HST hg0 htc
       go_wp2
       go_loopw [46] (fun v46 w' => ∃ i : Nat, i ≤ (zak l0_0 n).f2.length ∧ v46 = .int .i64 i ∧ ∃ st2 : List Bool × List Int, zab (meets l0_0 ((zak l0_0 n).f2.drop i) st2 = some st) ∧ zab (st2.1.length = l0_0.length) ∧ zab (WalkSt w' (zaF.W1 w (some na) l0_0.length c0_0).heap.size (w.heap.size + 1 + 1) (some na) l0_0.length c0_0 st2.1 st2.2) ∧ zab (Below (zaF.W1 w (some na) l0_0.length c0_0).heap.size (zaF.W1 w (some na) l0_0.length c0_0) w')) (fun v46 _ => (zak l0_0 n).f2.length - (intOf v46).toNat)
       case atStart => exact ⟨0, Nat.zero_le _, rfl, _, HME, HSL, HST2, HB2⟩
       case round =>
        clear HB2 HST2 hct2 hx2 hct hc1 hc2 hf2 hq0' hq1' hcut HME
        obtain ⟨i, hi, rfl, st2, HE2, HS2, HST, HB⟩ := hrel
        have hmax := HM2.out
        by_cases hlt : i < (zak l0_0 n).f2.length
        ·have hd := HE2.out
         rw [meets_drop l0_0 _ i hlt] at hd
         split at hd
         ·rename_i hc
          obtain ⟨hy0, hy1, hy2⟩ := hc
          have HME := zab.mk hd
          obtain ⟨ad, rfl, hx0, hx1⟩ := zca HI2.out (i : Int) (by omega) (by omega)
          have HB1 := zab.mk (zan (zaF.zbk _ _ _ _) HB.out)
          replace hx0 := (HB.out.cell (World.block_lt_of_cell? _ _ hx0)).trans hx0
          replace hx1 := (HB.out.cell (World.block_lt_of_cell? _ _ hx1)).trans hx1
          rw [Int.toNat_natCast] at hx0 hx1
          have HYH := zab.mk (show _ ∧ _ ∧ _ from ⟨hy0, hy1, hy2⟩)
          clear hd hy0 hy1 hy2
          go_wp2_with (first | (go_at_call 94; refine (meet_calls l0_0 (some na) c0_0 (w.heap.size + 1 + 1) st2.1 st2.2 (zau (zak l0_0 n).f2 i).f1 (zaF.W1 w (some na) l0_0.length c0_0) _ HR1.out (zad HB.out _) (HST.out.alloc _) HYH.out.1 HYH.out.2.1 HS2.out HYH.out.2.2).mono ?_; rintro e w1 ⟨rfl, hst, hb⟩; have HST3 := zab.mk hst; have HB3 := zab.mk hb; clear hst hb))
          go_roundw
          case rel => exact ⟨i + 1, by omega, by go_num, _, HME, ⟨by rw [meetF_len]; exact HS2.out⟩, HST3, HB3⟩
          case measure => simp [intOf]; omega
         ·cases hd
        ·have hd := HE2.out
         rw [List.drop_eq_nil_of_le (by omega), meets] at hd
         obtain rfl := Option.some.inj hd
         clear hd
         go_wp2
         go_roundg k1
         case measure => have := HK.out; omega
         case rel => exact ⟨_, _, HRE, ⟨by have := HK.out; omega⟩, HS2, HST, HB⟩
      ·rw [if_neg hn] at HE'
       cases HE'
  ·cases h
 ·cases h
def nodeB (l : List S40) (x : S40) : Bool := (tree_node.f l x.f0 x.f1 x.f2 x.f3 x.f4 x.f5).getD false
set_option maxHeartbeats 1000000 in
theorem nodeB_f (l : List S40) (x : S40) : tree_node.f l x.f0 x.f1 x.f2 x.f3 x.f4 x.f5 = some (nodeB l x) := by
 unfold nodeB tree_node.f
 simp only [zbp.f, zcv.f, zcm.f, strings_IndexByte.f, Option.bind_some]
 repeat' (first | rfl | (simp only [Option.bind_some]; split) | split)
 all_goals rfl
def nodesB (l : List S40) (n : Nat) : Bool := (List.range n).all fun i => nodeB l (zak l i)
theorem nodesB_succ (l : List S40) (n : Nat) : nodesB l (n + 1) = (nodesB l n && nodeB l (zak l n)) := by
 unfold nodesB; rw [List.range_succ, List.all_append]; simp
theorem nodesB_false {l : List S40} {i n : Nat} (hi : i < n) (h : nodeB l (zak l i) = false) : nodesB l n = false := by
 unfold nodesB
 rw [List.all_eq_false]
 exact ⟨i, List.mem_range.2 hi, by simp [h]⟩
def zbr (l : List S40) (L : List Int) (R : List Bool) (i : Nat) : Bool :=
 decide (0 < i) && ((zak l i).f4 != rdOf 0 L i || ((zak l i).f0 == 2 && (decide (1 < (zak l i).f4) || (((zak l i).f4 == 0 && decide (0 < (zak l i).f2.length)) || ((zak l i).f4 == 1 && !(rdOf false R i))))))
def lastB (l : List S40) (L : List Int) (R : List Bool) (n : Nat) : Bool := (List.range n).all fun i => !zbr l L R i
theorem zcc (l : List S40) (L : List Int) (R : List Bool) (n : Nat) : lastB l L R (n + 1) = (lastB l L R n && !zbr l L R n) := by
 unfold lastB; rw [List.range_succ, List.all_append]; simp
theorem lastB_false {l : List S40} {L : List Int} {R : List Bool} {i n : Nat} (hi : i < n) (h : zbr l L R i = true) : lastB l L R n = false := by
 unfold lastB
 rw [List.all_eq_false]
 exact ⟨i, List.mem_range.2 hi, by simp [h]⟩
def zbX (l : List S40) : Bool := decide (0 < l.length) && decide (l.length ≤ 64) && !(decide (1 < l.length) && (zak l ((l.length : Int) - 1)).f0 == 0) && (zak l 0).f0 == 2 && (zak l 0).f4 == 1
def za2.f (k : Nat) (l0_0 : List S40) : Option Bool := if zbX l0_0 = true then (if nodesB l0_0 l0_0.length = true then ((za1.f k l0_0).bind fun L => (zaF.f k l0_0).bind fun R => if L.length = l0_0.length ∧ R.length = l0_0.length then some (lastB l0_0 L R l0_0.length) else none) else some false) else some false
theorem za2.mono : ∀ a0 k, LeO (za2.f k a0) (za2.f (k + 1) a0) := fun a0 k => LeO.ite (LeO.ite (LeO.bind (za1.mono _ _) fun _ => LeO.bind (zaF.mono _ _) fun _ => LeO.refl _) (LeO.refl _)) (LeO.refl _)
def za2.W1 (w : World) (A : Option Addr) (n c : Nat) : World := w.alloc (.cells #[.slice A n c] 24)
theorem za2.zbk (w : World) (A : Option Addr) (n c : Nat) : Below w.heap.size w (za2.W1 w A n c) := zad (Below.refl _ _) _
theorem za2.zb8 {w w' : World} {A : Option Addr} {n c : Nat} (h : Below (za2.W1 w A n c).heap.size (za2.W1 w A n c) w') : w'.cell? ⟨w.heap.size, 0, none⟩ = some (.slice A n c) :=
 (zaa ((h.block w.heap.size (by show _ < (w.alloc _).heap.size; simp)).trans (zbd w _)) 0).trans rfl
set_option maxHeartbeats 8000000 in
set_option maxRecDepth 100000 in
theorem za2.calls (k : Nat) (A0_0 : Option Addr) (c0_0 : Nat) (l0_0 : List S40) (r : Bool) (w : World) (hr0_0 : Kd.C k40 w A0_0 l0_0.length l0_0) (hc0_0 : l0_0.length ≤ c0_0) (h : za2.f k l0_0 = some r) :
  Calls Tryz.prog 25 #[.agg #[.slice A0_0 l0_0.length c0_0]] w fun e w' => e = .returned (.bool r) ∧ Below w.heap.size w w' := by
 unfold za2.f at h
 have HR := zab.mk hr0_0
 have HC := zab.mk hc0_0
 have hut := Tryz.underlying24
 have hun := Tryz.underlying40
 clear hr0_0 hc0_0
 by_cases c1 : 0 < l0_0.length
 focus
  have n1 : decide ((l0_0.length : Int) < 1) = false := decide_eq_false (by omega)
  have n1b : decide (l0_0.length < 1) = false := decide_eq_false (by omega)
  by_cases c2 : l0_0.length ≤ 64
  focus
   have n2 : decide ((64 : Int) < (l0_0.length : Int)) = false := decide_eq_false (by omega)
   have n2b : decide (64 < l0_0.length) = false := decide_eq_false (by omega)
   obtain ⟨ad, B1, d1, B2, d2, rfl, hx0, hx1, hx2, hx3, hx4, hx5, _, _, _, _⟩ := zbl HR.out 0 (by omega) (by omega)
   replace hx0 := ((zad (Below.refl w.heap.size w) (.cells #[.slice (some ad) l0_0.length c0_0] 24)).cell (World.block_lt_of_cell? _ _ hx0)).trans hx0
   replace hx4 := ((zad (Below.refl w.heap.size w) (.cells #[.slice (some ad) l0_0.length c0_0] 24)).cell (World.block_lt_of_cell? _ _ hx4)).trans hx4
   replace hx0 : (w.alloc (.cells #[.slice (some ad) l0_0.length c0_0] 24)).cell? ad = some (.int .i64 (zak l0_0 0).f0) := by rw [← hx0]; congr 1
   replace hx4 : (w.alloc (.cells #[.slice (some ad) l0_0.length c0_0] 24)).cell? ⟨ad.block, ad.off + 4, none⟩ = some (.int .i64 (zak l0_0 0).f4) := by rw [← hx4]; congr 1
   have hpos : 0 < l0_0.length := c1
   have hmax : l0_0.length ≤ 9223372036854775807 := by omega
   clear hx1 hx2 hx3 hx5
   have HC1 := zab.mk c1
   have HC2 := zab.mk c2
   clear c1 c2
   by_cases c3 : 1 < l0_0.length
   focus
    have n3 : decide ((1 : Int) < (l0_0.length : Int)) = true := decide_eq_true (by omega)
    have n3b : decide (1 < l0_0.length) = true := decide_eq_true (by omega)
    obtain ⟨ad3, B3, d3, B4, d4, e3, hz0, hz1, hz2, hz3, hz4, hz5, _, _, _, _⟩ := zbl HR.out ((l0_0.length : Int) - 1) (by omega) (by omega)
    cases e3
    replace hz0 := ((zad (Below.refl w.heap.size w) (.cells #[.slice (some ad) l0_0.length c0_0] 24)).cell (World.block_lt_of_cell? _ _ hz0)).trans hz0
    rw [show ((l0_0.length : Int) - 1).toNat = l0_0.length - 1 by omega] at hz0
    have hp3 : 1 ≤ l0_0.length := by omega
    clear hz1 hz2 hz3 hz4 hz5
    have HC3 := zab.mk c3
    clear c3
    by_cases c4 : (zak l0_0 ((l0_0.length : Int) - 1)).f0 = 0
    focus
     have n4 : ((zak l0_0 ((l0_0.length : Int) - 1)).f0 == 0) = true := by simpa using c4
     have HF : zab (zbX l0_0 = false) := ⟨by unfold zbX; simp [HC3.out, c4]⟩
     rw [HF.out] at h
     have HH := zab.mk (Option.some.inj h)
     clear h
    rotate_left 1
    focus
     have n4 : ((zak l0_0 ((l0_0.length : Int) - 1)).f0 == 0) = false := by simpa using c4
     have HC4 := zab.mk c4
     clear c4
     by_cases c5 : (zak l0_0 0).f0 = 2
     focus
      have n5 : ((zak l0_0 0).f0 != 2) = false := by simpa using c5
      by_cases c6 : (zak l0_0 0).f4 = 1
      ·have n6 : ((zak l0_0 0).f4 != 1) = false := by simpa using c6
       have HEAD : zab (zbX l0_0 = true) := ⟨by unfold zbX; simp [HC1.out, HC2.out, HC4.out, c5, c6]⟩
       clear c5 c6
       rw [if_pos HEAD.out] at h
       have HH := zab.mk h
       clear h
       go_enter Tryz.func25, Tryz.ntmps25
       go_wp2
       clear hx0 hx4
       go_loopw [53] (fun v53 w' => ∃ i : Nat, i ≤ l0_0.length ∧ v53 = .int .i64 i ∧ zab (nodesB l0_0 i = true) ∧ zab (Below (za2.W1 w (some ad) l0_0.length c0_0).heap.size (za2.W1 w (some ad) l0_0.length c0_0) w')) (fun v53 _ => l0_0.length - (intOf v53).toNat)
       case atStart => exact ⟨0, Nat.zero_le _, rfl, ⟨rfl⟩, ⟨Below.refl _ _⟩⟩
       case round =>
        obtain ⟨i, hi, rfl, HE, HB⟩ := hrel
        have hmax := HC2.out
        have HB0 := zab.mk (zan (za2.zbk _ _ _ _) HB.out)
        have hct := za2.zb8 HB.out
        by_cases hlt : i < l0_0.length
        ·obtain ⟨ad2, B1, d1, B2, d2, e2, hx0, hx1, hx2, hx3, hx4, hx5, hl1, hi1, hl2, hi2⟩ := zbl HR.out (i : Int) (by omega) (by omega)
         cases e2
         replace hx0 := (HB0.out.cell (World.block_lt_of_cell? _ _ hx0)).trans hx0
         replace hx1 := (HB0.out.cell (World.block_lt_of_cell? _ _ hx1)).trans hx1
         replace hx2 := (HB0.out.cell (World.block_lt_of_cell? _ _ hx2)).trans hx2
         replace hx3 := (HB0.out.cell (World.block_lt_of_cell? _ _ hx3)).trans hx3
         replace hx4 := (HB0.out.cell (World.block_lt_of_cell? _ _ hx4)).trans hx4
         replace hx5 := (HB0.out.cell (World.block_lt_of_cell? _ _ hx5)).trans hx5
         rw [Int.toNat_natCast] at hx0 hx1 hx2 hx3 hx4 hx5
         have hct2 := fun o => (World.cell?_alloc_lt wr o _ (World.block_lt_of_cell? _ _ hct)).trans hct
         have F := fun b e w' (hb : Below wr.heap.size wr w') => tree_node.calls (some ad) c0_0 l0_0 (zak l0_0 i).f0 B1 d1 (zak l0_0 i).f1 B2 d2 (zak l0_0 i).f2 (zak l0_0 i).f3 (zak l0_0 i).f4 (zak l0_0 i).f5 b w' (Kd.C_below HR.out (zan HB0.out hb)) HC.out (Kd.C_below hi1 (zan HB0.out hb)) hl1 (Kd.C_below hi2 (zan HB0.out hb)) hl2 ((nodeB_f l0_0 (zak l0_0 i)).trans (congrArg some e))
         have HF := zab.mk F
         clear hi1 hl1 hi2 hl2 F
         cases hb : nodeB l0_0 (zak l0_0 i)
         ·have HN := zab.mk hb
          have HG := zab.mk (nodesB_false hlt hb)
          clear hb
          go_wp2_with (first | (go_at_call 60; refine (HF.out _ HN.out _ (zad (Below.refl _ _) _)).mono ?_; rintro e w1 ⟨rfl, hb⟩; have HB1 := zab.mk (zan (zad HB0.out _) hb); clear hb))
          go_ret
          have := HH.out
          rw [HG.out] at this
          exact ⟨by rw [← Option.some.inj this]; rfl, HB1.out⟩
         ·have HN := zab.mk hb
          have HG : zab (nodesB l0_0 (i + 1) = true) := ⟨by rw [nodesB_succ, HE.out, hb]; rfl⟩
          clear hb
          go_wp2_with (first | (go_at_call 60; refine (HF.out _ HN.out _ (zad (Below.refl _ _) _)).mono ?_; rintro e w1 ⟨rfl, hb⟩; have HB1 := zab.mk (zan (zad HB.out _) hb); clear hb))
          go_roundw
          case rel => exact ⟨i + 1, by omega, by go_num, HG, HB1⟩
          case measure => simp [intOf]; omega
        ·obtain rfl : i = l0_0.length := by omega
         have H1 := HH.out
         rw [if_pos HE.out] at H1
         obtain ⟨L, hL, H2⟩ := Option.bind_eq_some_iff.mp H1
         obtain ⟨R, hR, H3⟩ := Option.bind_eq_some_iff.mp H2
         clear H1 H2
         split at H3
         ·rename_i hlen
          have HLL := zab.mk hL
          have HRR := zab.mk hR
          have HLE := zab.mk hlen
          have HEND := zab.mk (Option.some.inj H3)
          clear hL hR hlen H3 HH
          go_wp2
          go_region_held3 (fun w' => w'.cell? ⟨w.heap.size, 0, none⟩ = some (.slice (some ad) l0_0.length c0_0)) (first | assumption | go_keep) (first | (go_at_call 61; refine (za1.calls k (some ad) c0_0 l0_0 L _ (Kd.C_below HR.out (by repeat (first | exact HB0.out | apply zad | apply zac | apply zaf | apply zas))) HC.out HLL.out).mono ?_; rintro e w1 ⟨v, rfl, hq, hb⟩; obtain ⟨lA, lc, rfl⟩ := Kd.zb2 hq; have HQ1 := zab.mk hq; have HBB1 := zab.mk (zan (show Below (za2.W1 w (some ad) l0_0.length c0_0).heap.size (za2.W1 w (some ad) l0_0.length c0_0) _ from by repeat (first | exact HB.out | apply zad | apply zac | apply zaf | apply zas)) hb); have hct1 := za2.zb8 HBB1.out; have HB1 := zab.mk (zan (za2.zbk _ _ _ _) HBB1.out); clear hq hb) | (go_at_call 62; refine (zaF.calls k (some ad) c0_0 l0_0 R _ (Kd.C_below HR.out (by repeat (first | exact HB1.out | apply zad | apply zac | apply zaf | apply zas))) HC.out HRR.out).mono ?_; rintro e w2 ⟨v, rfl, hq, hb⟩; obtain ⟨rA, rc, rfl⟩ := Kd.zb2 hq; have HQ2 := zab.mk hq; have HQ3 := zab.mk (Kd.R_below HQ1.out (zan (Below.refl _ _) hb)); have HBB2 := zab.mk (zan HBB1.out hb); have hct2 := za2.zb8 HBB2.out; have HB2 := zab.mk (zan (za2.zbk _ _ _ _) HBB2.out); clear hq hb))
          go_wp2
          try clear hct
          try clear hct1
          clear HBB1 HB1 HB HB0 HQ1
          go_loopw [69] (fun v69 w' => ∃ i : Nat, i ≤ l0_0.length ∧ v69 = .int .i64 i ∧ zab (lastB l0_0 L R i = true) ∧ zab (Below w2.heap.size w2 w')) (fun v69 _ => l0_0.length - (intOf v69).toNat)
          case atStart => exact ⟨0, Nat.zero_le _, rfl, ⟨rfl⟩, ⟨Below.refl _ _⟩⟩
          case round =>
           obtain ⟨i, hi, rfl, HE, HB⟩ := hrel
           have hmax := HC2.out
           have HB0 := zab.mk (zan HB2.out HB.out)
           try clear hct2
           by_cases hlt : i < l0_0.length
           focus
            obtain ⟨ad2, B1, d1, B2, d2, e2, hx0, hx1, hx2, hx3, hx4, hx5, hl1, hi1, hl2, hi2⟩ := zbl HR.out (i : Int) (by omega) (by omega)
            cases e2
            replace hx0 := (HB0.out.cell (World.block_lt_of_cell? _ _ hx0)).trans hx0
            replace hx1 := (HB0.out.cell (World.block_lt_of_cell? _ _ hx1)).trans hx1
            replace hx2 := (HB0.out.cell (World.block_lt_of_cell? _ _ hx2)).trans hx2
            replace hx3 := (HB0.out.cell (World.block_lt_of_cell? _ _ hx3)).trans hx3
            replace hx4 := (HB0.out.cell (World.block_lt_of_cell? _ _ hx4)).trans hx4
            replace hx5 := (HB0.out.cell (World.block_lt_of_cell? _ _ hx5)).trans hx5
            rw [Int.toNat_natCast] at hx0 hx1 hx2 hx3 hx4 hx5
            have HL := zab.mk (Kd.R_below HQ3.out HB.out)
            have HRb := zab.mk (Kd.R_below HQ2.out HB.out)
            obtain ⟨lg, lcap, el, _, _, _, _⟩ := Kd.R_form HL.out (by rw [HLE.out.1]; omega)
            cases el
            obtain ⟨rg, rcap, er, _, _, _, _⟩ := Kd.R_form HRb.out (by rw [HLE.out.2]; omega)
            cases er
            have hLc := (Kd.R_cell 0 HL.out (i : Int) (by omega) (by rw [HLE.out.1]; omega)).1
            have hRc := (Kd.R_cell false HRb.out (i : Int) (by omega) (by rw [HLE.out.2]; omega)).1
            rw [Int.toNat_natCast] at hLc hRc
            have hll : (L.length : Int) = (l0_0.length : Int) := by rw [HLE.out.1]
            have hrl : (R.length : Int) = (l0_0.length : Int) := by rw [HLE.out.2]
            have hLc2 := fun o => (World.cell?_alloc_lt wr o _ (World.block_lt_of_cell? _ _ hLc)).trans hLc
            have hRc2 := fun o => (World.cell?_alloc_lt wr o _ (World.block_lt_of_cell? _ _ hRc)).trans hRc
            by_cases b1 : 0 < i
            focus
             have m1 : decide ((0 : Int) < (i : Int)) = true := decide_eq_true (by omega)
             have m1b : decide (0 < i) = true := decide_eq_true (by omega)
             by_cases b2 : (zak l0_0 i).f4 = rdOf 0 L i
             focus
              have m2 : ((zak l0_0 i).f4 != rdOf 0 L i) = false := by simpa using b2
              have B2 := zab.mk b2
              clear b2
              by_cases b3 : (zak l0_0 i).f0 = 2
              focus
               have m3 : ((zak l0_0 i).f0 == 2) = true := by simpa using b3
               have B3 := zab.mk b3
               clear b3
               by_cases b4 : 1 < (zak l0_0 i).f4
               focus
                have m4 : decide (1 < (zak l0_0 i).f4) = true := decide_eq_true b4
                have HG : zab (zbr l0_0 L R i = true) := ⟨by unfold zbr; simp [b1, B3.out, b4]⟩
                have zmk0 := trivial
               rotate_left 1
               focus
                have m4 : decide (1 < (zak l0_0 i).f4) = false := decide_eq_false b4
                by_cases b5 : (zak l0_0 i).f4 = 0
                focus
                 have m5 : ((zak l0_0 i).f4 == 0) = true := by simpa using b5
                 have m5b : ((zak l0_0 i).f4 == 1) = false := by simp [b5]
                 have B5 := zab.mk b5
                 clear b5 b4
                 by_cases b6 : 0 < (zak l0_0 i).f2.length
                 focus
                  have m6 : decide ((0 : Int) < ((zak l0_0 i).f2.length : Int)) = true := decide_eq_true (by omega)
                  have m6b : decide (0 < (zak l0_0 i).f2.length) = true := decide_eq_true b6
                  have HG : zab (zbr l0_0 L R i = true) := ⟨by unfold zbr; simp [b1, B3.out, B5.out, b6]⟩
                  have zmk0 := trivial
                 rotate_left 1
                 focus
                  have m6 : decide ((0 : Int) < ((zak l0_0 i).f2.length : Int)) = false := decide_eq_false (by omega)
                  have m6b : decide (0 < (zak l0_0 i).f2.length) = false := decide_eq_false b6
                  have B4 : zab (¬ (1 < (zak l0_0 i).f4)) := ⟨by rw [B5.out]; omega⟩
                  have HG : zab (lastB l0_0 L R (i + 1) = true) := ⟨by rw [zcc, HE.out]; unfold zbr; simp [B2.out.symm, B3.out, B5.out, b6, B4.out]⟩
                  have zmk1 := trivial
                rotate_left 2
                focus
                 have m5 : ((zak l0_0 i).f4 == 0) = false := by simpa using b5
                 by_cases b7 : (zak l0_0 i).f4 = 1
                 ·have m7 : ((zak l0_0 i).f4 == 1) = true := by simpa using b7
                  have B7 := zab.mk b7
                  clear b7 b5 b4
                  cases b8 : rdOf false R i
                  ·rw [b8] at hRc hRc2
                   have HG : zab (zbr l0_0 L R i = true) := ⟨by unfold zbr; simp [b1, B3.out, B7.out, b8]⟩
                   go_wp2
                   go_quiet (fail)
                   go_wp2
                   go_ret
                   exact ⟨by rw [← HEND.out, lastB_false hlt HG.out]; rfl, by repeat (first | exact HB0.out | apply zad | apply zac | apply zaf)⟩
                  ·rw [b8] at hRc hRc2
                   have HG : zab (lastB l0_0 L R (i + 1) = true) := ⟨by rw [zcc, HE.out]; unfold zbr; simp [B2.out.symm, B3.out, B7.out, b8]⟩
                   go_wp2
                   go_quiet (fail)
                   go_wp2
                   go_roundw
                   case rel => exact ⟨i + 1, by omega, by go_num, HG, ⟨by repeat (first | exact HB.out | apply zad | apply zac | apply zaf)⟩⟩
                   case measure => simp [intOf]; omega
                 focus
                  have m7 : ((zak l0_0 i).f4 == 1) = false := by simpa using b7
                  have B4 := zab.mk b4
                  have B5 := zab.mk b5
                  have B7 := zab.mk b7
                  clear b4 b5 b7
                  have HG : zab (lastB l0_0 L R (i + 1) = true) := ⟨by rw [zcc, HE.out]; unfold zbr; simp [B2.out.symm, B3.out, B4.out, B5.out, B7.out]⟩
                  have zmk1 := trivial
              rotate_left 4
              focus
               have m3 : ((zak l0_0 i).f0 == 2) = false := by simpa using b3
               have B3 := zab.mk b3
               clear b3
               have HG : zab (lastB l0_0 L R (i + 1) = true) := ⟨by rw [zcc, HE.out]; unfold zbr; simp [B2.out.symm, B3.out]⟩
               have zmk1 := trivial
             rotate_left 5
             focus
              have m2 : ((zak l0_0 i).f4 != rdOf 0 L i) = true := by simpa using b2
              have HG : zab (zbr l0_0 L R i = true) := ⟨by unfold zbr; simp [b1, b2]⟩
              have zmk0 := trivial
            rotate_left 6
            focus
             have m1 : decide ((0 : Int) < (i : Int)) = false := decide_eq_false (by omega)
             have m1b : decide (0 < i) = false := decide_eq_false (by omega)
             have HG : zab (lastB l0_0 L R (i + 1) = true) := ⟨by rw [zcc, HE.out]; unfold zbr; simp [b1]⟩
             have zmk1 := trivial
           rotate_left 7
           focus
            obtain rfl : i = l0_0.length := by omega
            have zmk2 := trivial
           all_goals
            first
            | (
             clear zmk0
             go_wp2
             go_quiet (fail)
             go_wp2
             go_ret
             exact ⟨by rw [← HEND.out, lastB_false hlt HG.out]; rfl, by repeat (first | exact HB0.out | apply zad | apply zac | apply zaf)⟩
            )
            | (
             clear zmk1
             go_wp2
             go_quiet (fail)
             go_wp2
             go_roundw
             case rel => exact ⟨i + 1, by omega, by go_num, HG, ⟨by repeat (first | exact HB.out | apply zad | apply zac | apply zaf)⟩⟩
             case measure => simp [intOf]; omega
            )
            | (
             clear zmk2
             go_wp2
             go_ret
             exact ⟨by rw [← HEND.out, HE.out]; rfl, HB0.out⟩
            )
         ·cases H3
      focus
       have n6 : ((zak l0_0 0).f4 != 1) = true := by simpa using c6
       have HF : zab (zbX l0_0 = false) := ⟨by unfold zbX; simp [c6]⟩
       rw [HF.out] at h
       have HH := zab.mk (Option.some.inj h)
       clear h
     rotate_left 1
     focus
      have n5 : ((zak l0_0 0).f0 != 2) = true := by simpa using c5
      have HF : zab (zbX l0_0 = false) := ⟨by unfold zbX; simp [c5]⟩
      rw [HF.out] at h
      have HH := zab.mk (Option.some.inj h)
      clear h
   rotate_left 3
   focus
    have n3 : decide ((1 : Int) < (l0_0.length : Int)) = false := decide_eq_false (by omega)
    have n3b : decide (1 < l0_0.length) = false := decide_eq_false (by omega)
    have HC3 := zab.mk c3
    clear c3
    by_cases c5 : (zak l0_0 0).f0 = 2
    focus
     have n5 : ((zak l0_0 0).f0 != 2) = false := by simpa using c5
     by_cases c6 : (zak l0_0 0).f4 = 1
     ·have n6 : ((zak l0_0 0).f4 != 1) = false := by simpa using c6
      have HEAD : zab (zbX l0_0 = true) := ⟨by unfold zbX; simp [HC1.out, HC2.out, HC3.out, c5, c6]⟩
      clear c5 c6
      rw [if_pos HEAD.out] at h
      have HH := zab.mk h
      clear h
      go_enter Tryz.func25, Tryz.ntmps25
      go_wp2
      clear hx0 hx4
      go_loopw [53] (fun v53 w' => ∃ i : Nat, i ≤ l0_0.length ∧ v53 = .int .i64 i ∧ zab (nodesB l0_0 i = true) ∧ zab (Below (za2.W1 w (some ad) l0_0.length c0_0).heap.size (za2.W1 w (some ad) l0_0.length c0_0) w')) (fun v53 _ => l0_0.length - (intOf v53).toNat)
      case atStart => exact ⟨0, Nat.zero_le _, rfl, ⟨rfl⟩, ⟨Below.refl _ _⟩⟩
      case round =>
       obtain ⟨i, hi, rfl, HE, HB⟩ := hrel
       have hmax := HC2.out
       have HB0 := zab.mk (zan (za2.zbk _ _ _ _) HB.out)
       have hct := za2.zb8 HB.out
       by_cases hlt : i < l0_0.length
       ·obtain ⟨ad2, B1, d1, B2, d2, e2, hx0, hx1, hx2, hx3, hx4, hx5, hl1, hi1, hl2, hi2⟩ := zbl HR.out (i : Int) (by omega) (by omega)
        cases e2
        replace hx0 := (HB0.out.cell (World.block_lt_of_cell? _ _ hx0)).trans hx0
        replace hx1 := (HB0.out.cell (World.block_lt_of_cell? _ _ hx1)).trans hx1
        replace hx2 := (HB0.out.cell (World.block_lt_of_cell? _ _ hx2)).trans hx2
        replace hx3 := (HB0.out.cell (World.block_lt_of_cell? _ _ hx3)).trans hx3
        replace hx4 := (HB0.out.cell (World.block_lt_of_cell? _ _ hx4)).trans hx4
        replace hx5 := (HB0.out.cell (World.block_lt_of_cell? _ _ hx5)).trans hx5
        rw [Int.toNat_natCast] at hx0 hx1 hx2 hx3 hx4 hx5
        have hct2 := fun o => (World.cell?_alloc_lt wr o _ (World.block_lt_of_cell? _ _ hct)).trans hct
        have F := fun b e w' (hb : Below wr.heap.size wr w') => tree_node.calls (some ad) c0_0 l0_0 (zak l0_0 i).f0 B1 d1 (zak l0_0 i).f1 B2 d2 (zak l0_0 i).f2 (zak l0_0 i).f3 (zak l0_0 i).f4 (zak l0_0 i).f5 b w' (Kd.C_below HR.out (zan HB0.out hb)) HC.out (Kd.C_below hi1 (zan HB0.out hb)) hl1 (Kd.C_below hi2 (zan HB0.out hb)) hl2 ((nodeB_f l0_0 (zak l0_0 i)).trans (congrArg some e))
        have HF := zab.mk F
        clear hi1 hl1 hi2 hl2 F
        cases hb : nodeB l0_0 (zak l0_0 i)
        ·have HN := zab.mk hb
         have HG := zab.mk (nodesB_false hlt hb)
         clear hb
         go_wp2_with (first | (go_at_call 60; refine (HF.out _ HN.out _ (zad (Below.refl _ _) _)).mono ?_; rintro e w1 ⟨rfl, hb⟩; have HB1 := zab.mk (zan (zad HB0.out _) hb); clear hb))
         go_ret
         have := HH.out
         rw [HG.out] at this
         exact ⟨by rw [← Option.some.inj this]; rfl, HB1.out⟩
        ·have HN := zab.mk hb
         have HG : zab (nodesB l0_0 (i + 1) = true) := ⟨by rw [nodesB_succ, HE.out, hb]; rfl⟩
         clear hb
         go_wp2_with (first | (go_at_call 60; refine (HF.out _ HN.out _ (zad (Below.refl _ _) _)).mono ?_; rintro e w1 ⟨rfl, hb⟩; have HB1 := zab.mk (zan (zad HB.out _) hb); clear hb))
         go_roundw
         case rel => exact ⟨i + 1, by omega, by go_num, HG, HB1⟩
         case measure => simp [intOf]; omega
       ·obtain rfl : i = l0_0.length := by omega
        have H1 := HH.out
        rw [if_pos HE.out] at H1
        obtain ⟨L, hL, H2⟩ := Option.bind_eq_some_iff.mp H1
        obtain ⟨R, hR, H3⟩ := Option.bind_eq_some_iff.mp H2
        clear H1 H2
        split at H3
        ·rename_i hlen
         have HLL := zab.mk hL
         have HRR := zab.mk hR
         have HLE := zab.mk hlen
         have HEND := zab.mk (Option.some.inj H3)
         clear hL hR hlen H3 HH
         go_wp2
         go_region_held3 (fun w' => w'.cell? ⟨w.heap.size, 0, none⟩ = some (.slice (some ad) l0_0.length c0_0)) (first | assumption | go_keep) (first | (go_at_call 61; refine (za1.calls k (some ad) c0_0 l0_0 L _ (Kd.C_below HR.out (by repeat (first | exact HB0.out | apply zad | apply zac | apply zaf | apply zas))) HC.out HLL.out).mono ?_; rintro e w1 ⟨v, rfl, hq, hb⟩; obtain ⟨lA, lc, rfl⟩ := Kd.zb2 hq; have HQ1 := zab.mk hq; have HBB1 := zab.mk (zan (show Below (za2.W1 w (some ad) l0_0.length c0_0).heap.size (za2.W1 w (some ad) l0_0.length c0_0) _ from by repeat (first | exact HB.out | apply zad | apply zac | apply zaf | apply zas)) hb); have hct1 := za2.zb8 HBB1.out; have HB1 := zab.mk (zan (za2.zbk _ _ _ _) HBB1.out); clear hq hb) | (go_at_call 62; refine (zaF.calls k (some ad) c0_0 l0_0 R _ (Kd.C_below HR.out (by repeat (first | exact HB1.out | apply zad | apply zac | apply zaf | apply zas))) HC.out HRR.out).mono ?_; rintro e w2 ⟨v, rfl, hq, hb⟩; obtain ⟨rA, rc, rfl⟩ := Kd.zb2 hq; have HQ2 := zab.mk hq; have HQ3 := zab.mk (Kd.R_below HQ1.out (zan (Below.refl _ _) hb)); have HBB2 := zab.mk (zan HBB1.out hb); have hct2 := za2.zb8 HBB2.out; have HB2 := zab.mk (zan (za2.zbk _ _ _ _) HBB2.out); clear hq hb))
         go_wp2
         try clear hct
         try clear hct1
         clear HBB1 HB1 HB HB0 HQ1
         go_loopw [69] (fun v69 w' => ∃ i : Nat, i ≤ l0_0.length ∧ v69 = .int .i64 i ∧ zab (lastB l0_0 L R i = true) ∧ zab (Below w2.heap.size w2 w')) (fun v69 _ => l0_0.length - (intOf v69).toNat)
         case atStart => exact ⟨0, Nat.zero_le _, rfl, ⟨rfl⟩, ⟨Below.refl _ _⟩⟩
         case round =>
          obtain ⟨i, hi, rfl, HE, HB⟩ := hrel
          have hmax := HC2.out
          have HB0 := zab.mk (zan HB2.out HB.out)
          try clear hct2
          by_cases hlt : i < l0_0.length
          focus
           obtain ⟨ad2, B1, d1, B2, d2, e2, hx0, hx1, hx2, hx3, hx4, hx5, hl1, hi1, hl2, hi2⟩ := zbl HR.out (i : Int) (by omega) (by omega)
           cases e2
           replace hx0 := (HB0.out.cell (World.block_lt_of_cell? _ _ hx0)).trans hx0
           replace hx1 := (HB0.out.cell (World.block_lt_of_cell? _ _ hx1)).trans hx1
           replace hx2 := (HB0.out.cell (World.block_lt_of_cell? _ _ hx2)).trans hx2
           replace hx3 := (HB0.out.cell (World.block_lt_of_cell? _ _ hx3)).trans hx3
           replace hx4 := (HB0.out.cell (World.block_lt_of_cell? _ _ hx4)).trans hx4
           replace hx5 := (HB0.out.cell (World.block_lt_of_cell? _ _ hx5)).trans hx5
           rw [Int.toNat_natCast] at hx0 hx1 hx2 hx3 hx4 hx5
           have HL := zab.mk (Kd.R_below HQ3.out HB.out)
           have HRb := zab.mk (Kd.R_below HQ2.out HB.out)
           obtain ⟨lg, lcap, el, _, _, _, _⟩ := Kd.R_form HL.out (by rw [HLE.out.1]; omega)
           cases el
           obtain ⟨rg, rcap, er, _, _, _, _⟩ := Kd.R_form HRb.out (by rw [HLE.out.2]; omega)
           cases er
           have hLc := (Kd.R_cell 0 HL.out (i : Int) (by omega) (by rw [HLE.out.1]; omega)).1
           have hRc := (Kd.R_cell false HRb.out (i : Int) (by omega) (by rw [HLE.out.2]; omega)).1
           rw [Int.toNat_natCast] at hLc hRc
           have hll : (L.length : Int) = (l0_0.length : Int) := by rw [HLE.out.1]
           have hrl : (R.length : Int) = (l0_0.length : Int) := by rw [HLE.out.2]
           have hLc2 := fun o => (World.cell?_alloc_lt wr o _ (World.block_lt_of_cell? _ _ hLc)).trans hLc
           have hRc2 := fun o => (World.cell?_alloc_lt wr o _ (World.block_lt_of_cell? _ _ hRc)).trans hRc
           by_cases b1 : 0 < i
           focus
            have m1 : decide ((0 : Int) < (i : Int)) = true := decide_eq_true (by omega)
            have m1b : decide (0 < i) = true := decide_eq_true (by omega)
            by_cases b2 : (zak l0_0 i).f4 = rdOf 0 L i
            focus
             have m2 : ((zak l0_0 i).f4 != rdOf 0 L i) = false := by simpa using b2
             have B2 := zab.mk b2
             clear b2
             by_cases b3 : (zak l0_0 i).f0 = 2
             focus
              have m3 : ((zak l0_0 i).f0 == 2) = true := by simpa using b3
              have B3 := zab.mk b3
              clear b3
              by_cases b4 : 1 < (zak l0_0 i).f4
              focus
               have m4 : decide (1 < (zak l0_0 i).f4) = true := decide_eq_true b4
               have HG : zab (zbr l0_0 L R i = true) := ⟨by unfold zbr; simp [b1, B3.out, b4]⟩
               have zmk0 := trivial
              rotate_left 1
              focus
               have m4 : decide (1 < (zak l0_0 i).f4) = false := decide_eq_false b4
               by_cases b5 : (zak l0_0 i).f4 = 0
               focus
                have m5 : ((zak l0_0 i).f4 == 0) = true := by simpa using b5
                have m5b : ((zak l0_0 i).f4 == 1) = false := by simp [b5]
                have B5 := zab.mk b5
                clear b5 b4
                by_cases b6 : 0 < (zak l0_0 i).f2.length
                focus
                 have m6 : decide ((0 : Int) < ((zak l0_0 i).f2.length : Int)) = true := decide_eq_true (by omega)
                 have m6b : decide (0 < (zak l0_0 i).f2.length) = true := decide_eq_true b6
                 have HG : zab (zbr l0_0 L R i = true) := ⟨by unfold zbr; simp [b1, B3.out, B5.out, b6]⟩
                 have zmk0 := trivial
                rotate_left 1
                focus
                 have m6 : decide ((0 : Int) < ((zak l0_0 i).f2.length : Int)) = false := decide_eq_false (by omega)
                 have m6b : decide (0 < (zak l0_0 i).f2.length) = false := decide_eq_false b6
                 have B4 : zab (¬ (1 < (zak l0_0 i).f4)) := ⟨by rw [B5.out]; omega⟩
                 have HG : zab (lastB l0_0 L R (i + 1) = true) := ⟨by rw [zcc, HE.out]; unfold zbr; simp [B2.out.symm, B3.out, B5.out, b6, B4.out]⟩
                 have zmk1 := trivial
               rotate_left 2
               focus
                have m5 : ((zak l0_0 i).f4 == 0) = false := by simpa using b5
                by_cases b7 : (zak l0_0 i).f4 = 1
                ·have m7 : ((zak l0_0 i).f4 == 1) = true := by simpa using b7
                 have B7 := zab.mk b7
                 clear b7 b5 b4
                 cases b8 : rdOf false R i
                 ·rw [b8] at hRc hRc2
                  have HG : zab (zbr l0_0 L R i = true) := ⟨by unfold zbr; simp [b1, B3.out, B7.out, b8]⟩
                  go_wp2
                  go_quiet (fail)
                  go_wp2
                  go_ret
                  exact ⟨by rw [← HEND.out, lastB_false hlt HG.out]; rfl, by repeat (first | exact HB0.out | apply zad | apply zac | apply zaf)⟩
                 ·rw [b8] at hRc hRc2
                  have HG : zab (lastB l0_0 L R (i + 1) = true) := ⟨by rw [zcc, HE.out]; unfold zbr; simp [B2.out.symm, B3.out, B7.out, b8]⟩
                  go_wp2
                  go_quiet (fail)
                  go_wp2
                  go_roundw
                  case rel => exact ⟨i + 1, by omega, by go_num, HG, ⟨by repeat (first | exact HB.out | apply zad | apply zac | apply zaf)⟩⟩
                  case measure => simp [intOf]; omega
                focus
                 have m7 : ((zak l0_0 i).f4 == 1) = false := by simpa using b7
                 have B4 := zab.mk b4
                 have B5 := zab.mk b5
                 have B7 := zab.mk b7
                 clear b4 b5 b7
                 have HG : zab (lastB l0_0 L R (i + 1) = true) := ⟨by rw [zcc, HE.out]; unfold zbr; simp [B2.out.symm, B3.out, B4.out, B5.out, B7.out]⟩
                 have zmk1 := trivial
             rotate_left 4
             focus
              have m3 : ((zak l0_0 i).f0 == 2) = false := by simpa using b3
              have B3 := zab.mk b3
              clear b3
              have HG : zab (lastB l0_0 L R (i + 1) = true) := ⟨by rw [zcc, HE.out]; unfold zbr; simp [B2.out.symm, B3.out]⟩
              have zmk1 := trivial
            rotate_left 5
            focus
             have m2 : ((zak l0_0 i).f4 != rdOf 0 L i) = true := by simpa using b2
             have HG : zab (zbr l0_0 L R i = true) := ⟨by unfold zbr; simp [b1, b2]⟩
             have zmk0 := trivial
           rotate_left 6
           focus
            have m1 : decide ((0 : Int) < (i : Int)) = false := decide_eq_false (by omega)
            have m1b : decide (0 < i) = false := decide_eq_false (by omega)
            have HG : zab (lastB l0_0 L R (i + 1) = true) := ⟨by rw [zcc, HE.out]; unfold zbr; simp [b1]⟩
            have zmk1 := trivial
          rotate_left 7
          focus
           obtain rfl : i = l0_0.length := by omega
           have zmk2 := trivial
          all_goals
           first
           | (
            clear zmk0
            go_wp2
            go_quiet (fail)
            go_wp2
            go_ret
            exact ⟨by rw [← HEND.out, lastB_false hlt HG.out]; rfl, by repeat (first | exact HB0.out | apply zad | apply zac | apply zaf)⟩
           )
           | (
            clear zmk1
            go_wp2
            go_quiet (fail)
            go_wp2
            go_roundw
            case rel => exact ⟨i + 1, by omega, by go_num, HG, ⟨by repeat (first | exact HB.out | apply zad | apply zac | apply zaf)⟩⟩
            case measure => simp [intOf]; omega
           )
           | (
            clear zmk2
            go_wp2
            go_ret
            exact ⟨by rw [← HEND.out, HE.out]; rfl, HB0.out⟩
           )
        ·cases H3
     focus
      have n6 : ((zak l0_0 0).f4 != 1) = true := by simpa using c6
      have HF : zab (zbX l0_0 = false) := ⟨by unfold zbX; simp [c6]⟩
      rw [HF.out] at h
      have HH := zab.mk (Option.some.inj h)
      clear h
    rotate_left 1
    focus
     have n5 : ((zak l0_0 0).f0 != 2) = true := by simpa using c5
     have HF : zab (zbX l0_0 = false) := ⟨by unfold zbX; simp [c5]⟩
     rw [HF.out] at h
     have HH := zab.mk (Option.some.inj h)
     clear h
  rotate_left 5
  focus
   have n2 : decide ((64 : Int) < (l0_0.length : Int)) = true := decide_eq_true (by omega)
   have n2b : decide (64 < l0_0.length) = true := decide_eq_true (by omega)
   have HF : zab (zbX l0_0 = false) := ⟨by unfold zbX; simp [c2]⟩
   rw [HF.out] at h
   have HH := zab.mk (Option.some.inj h)
   clear h
 rotate_left 6
 focus
  have n1 : decide ((l0_0.length : Int) < 1) = true := decide_eq_true (by omega)
  have n1b : decide (l0_0.length < 1) = true := decide_eq_true (by omega)
  have HF : zab (zbX l0_0 = false) := ⟨by unfold zbX; simp [c1]⟩
  rw [HF.out] at h
  have HH := zab.mk (Option.some.inj h)
  clear h
 all_goals
  go_enter Tryz.func25, Tryz.ntmps25
  go_wp2
  go_ret
  exact ⟨by rw [← HH.out]; rfl, za2.zbk _ _ _ _⟩
theorem tree_node_ok (l : List S40) (x : S40) (hx : FitsN x) : nodeB l x = true ↔ zcr x ∧ (x.f0 = 0 → True) ∧ (x.f0 = 2 → ∀ i, i < x.f2.length → zb4 l (zau x.f2 (i : Int))) := by
 have h := nodeB_f l x
 have hw : wrap64 ((x.f1.length : Int) + (x.f2.length : Int)) = 0 ↔ x.f1 = [] ∧ x.f2 = [] := by
  have := hx.1; have := hx.2
  rw [show wrap64 ((x.f1.length : Int) + (x.f2.length : Int)) = (x.f1.length : Int) + (x.f2.length : Int) by unfold wrap64; omega, ← List.length_eq_zero_iff, ← List.length_eq_zero_iff]
  omega
 have hl1 : (x.f1.length : Int) = 0 ↔ x.f1 = [] := by rw [← List.length_eq_zero_iff]; omega
 have hl2 : (x.f2.length : Int) = 0 ↔ x.f2 = [] := by rw [← List.length_eq_zero_iff]; omega
 obtain ⟨tb, ht, htp⟩ := tree_time_ x.f5
 unfold tree_node.f at h
 by_cases c0 : x.f0 = 0
 ·rw [if_pos c0] at h
  have : zcr x ↔ x = z40 := by
   unfold zcr
   constructor
   ·rintro (h | h | h | h)
    ·exact h.2
    all_goals have := h.1; omega
   ·exact fun h => .inl ⟨c0, h⟩
  rw [this, node_ext]
  show _ ↔ (x.f0 = 0 ∧ x.f1 = [] ∧ x.f2 = [] ∧ x.f3 = ⟨#[]⟩ ∧ x.f4 = 0 ∧ x.f5 = 0) ∧ _
  by_cases c1 : wrap64 ((x.f1.length : Int) + (x.f2.length : Int)) = 0
  ·rw [if_pos c1] at h
   have c1' := hw.1 c1
   by_cases c2 : x.f3.toList = ([] : List UInt8)
   ·rw [if_pos c2] at h
    have c2' := zcz.1 c2
    by_cases c3 : x.f4 = 0
    ·rw [if_pos c3] at h
     rw [← Option.some.inj h, beq_iff_eq]
     exact ⟨fun h => ⟨⟨c0, c1'.1, c1'.2, c2', c3, h⟩, fun _ => trivial, fun h => by omega⟩, fun h => h.1.2.2.2.2.2⟩
    ·rw [if_neg c3] at h
     rw [← Option.some.inj h]
     exact ⟨fun h => by (cases h), fun h => absurd h.1.2.2.2.2.1 c3⟩
   ·rw [if_neg c2] at h
    rw [← Option.some.inj h]
    exact ⟨fun h => by (cases h), fun h => absurd (zcz.2 h.1.2.2.2.1) c2⟩
  ·rw [if_neg c1] at h
   rw [← Option.some.inj h]
   exact ⟨fun h => by (cases h), fun h => absurd (hw.2 ⟨h.1.2.1, h.1.2.2.1⟩) c1⟩
 rw [if_neg c0] at h
 by_cases c1 : x.f0 = 1
 ·rw [if_pos c1] at h
  have : zcr x ↔ TimeP x.f5 ∧ x.f1.length ≤ 16384 ∧ x.f2 = [] ∧ x.f3 = ⟨#[]⟩ := by
   unfold zcr
   constructor
   ·rintro (h | h | h | h)
    ·have := h.1; omega
    ·exact h.2
    all_goals have := h.1; omega
   ·exact fun h => .inr (.inl ⟨c1, h⟩)
  rw [this]
  by_cases c2 : (x.f1.length : Int) ≤ 16384
  ·rw [if_pos c2] at h
   by_cases c3 : (x.f2.length : Int) = 0
   ·rw [if_pos c3] at h
    by_cases c4 : x.f3.toList = ([] : List UInt8)
    ·rw [if_pos c4, ht] at h
     rw [← Option.some.inj (show some tb = _ from h), htp]
     exact ⟨fun h => ⟨⟨h, by omega, hl2.1 c3, zcz.1 c4⟩, fun _ => trivial, fun h => by omega⟩, fun h => h.1.1⟩
    ·rw [if_neg c4] at h
     rw [← Option.some.inj h]
     exact ⟨fun h => by (cases h), fun h => absurd (zcz.2 h.1.2.2.2) c4⟩
   ·rw [if_neg c3] at h
    rw [← Option.some.inj h]
    exact ⟨fun h => by (cases h), fun h => absurd (hl2.2 h.1.2.2.1) c3⟩
  ·rw [if_neg c2] at h
   rw [← Option.some.inj h]
   exact ⟨fun h => by (cases h), fun h => by have := h.1.2.1; omega⟩
 rw [if_neg c1] at h
 by_cases c2 : x.f0 = 2
 ·rw [if_pos c2] at h
  have : zcr x ↔ TimeP x.f5 ∧ x.f2.length ≤ 64 ∧ (∀ i, i < x.f2.length → okR x.f2 i) ∧ x.f1 = [] ∧ x.f3 = ⟨#[]⟩ := by
   unfold zcr
   constructor
   ·rintro (h | h | h | h)
    ·have := h.1; omega
    ·have := h.1; omega
    ·exact h.2
    ·have := h.1; omega
   ·exact fun h => .inr (.inr (.inl ⟨c2, h⟩))
  rw [this]
  by_cases c3 : (x.f1.length : Int) = 0
  ·rw [if_pos c3] at h
   by_cases c4 : x.f3.toList = ([] : List UInt8)
   ·rw [if_pos c4, ht] at h
    rw [Option.bind_some] at h
    cases tb with
    | true =>
     rw [if_pos rfl] at h
     have h' := Option.some.inj (show some (okNames l x.f2 x.f2.length && decide ((x.f2.length : Int) ≤ 64)) = _ from h)
     rw [← h', Bool.and_eq_true, okNames_iff, decide_eq_true_eq]
     exact ⟨fun h => ⟨⟨htp.1 rfl, by omega, fun i hi => (h.1 i hi).1, hl1.1 c3, zcz.1 c4⟩, fun _ => trivial, fun _ i hi => (h.1 i hi).2⟩, fun h => ⟨fun i hi => ⟨h.1.2.2.1 i hi, h.2.2 c2 i hi⟩, by have := h.1.2.1; omega⟩⟩
    | false =>
     rw [if_neg (by simp)] at h
     rw [← Option.some.inj h]
     exact ⟨fun h => by (cases h), fun h => absurd (htp.2 h.1.1) (by simp)⟩
   ·rw [if_neg c4] at h
    rw [← Option.some.inj h]
    exact ⟨fun h => by (cases h), fun h => absurd (zcz.2 h.1.2.2.2.2) c4⟩
  ·rw [if_neg c3] at h
   rw [← Option.some.inj h]
   exact ⟨fun h => by (cases h), fun h => absurd (hl1.2 h.1.2.2.2.1) c3⟩
 rw [if_neg c2] at h
 by_cases c3 : x.f0 = 3
 ·rw [if_pos c3] at h
  have : zcr x ↔ TimeP x.f5 ∧ x.f3 ≠ ⟨#[]⟩ ∧ x.f3.size ≤ 512 ∧ (0 : UInt8) ∉ bytesOf x.f3 ∧ x.f1 = [] ∧ x.f2 = [] := by
   unfold zcr
   constructor
   ·rintro (h | h | h | h)
    ·have := h.1; omega
    ·have := h.1; omega
    ·have := h.1; omega
    ·exact h.2
   ·exact fun h => .inr (.inr (.inr ⟨c3, h⟩))
  rw [this]
  have htg : ∃ b, zcm.f x.f3 = some b ∧ (b = true ↔ x.f3 ≠ ⟨#[]⟩ ∧ x.f3.size ≤ 512 ∧ (0 : UInt8) ∉ bytesOf x.f3) := by
   unfold zcm.f
   by_cases d1 : x.f3.toList = ([] : List UInt8)
   ·exact ⟨_, if_pos d1, by constructor <;> intro h; cases h; exact absurd (zcz.1 d1) h.1⟩
   ·rw [if_neg d1]
    by_cases d2 : (x.f3.size : Int) ≤ 512
    ·rw [if_pos d2]
     refine ⟨decide (Lib.indexByte (bytesOf x.f3) 0 < 0), rfl, ?_⟩
     have := idx_ge 0 (bytesOf x.f3)
     rw [decide_eq_true_eq]
     constructor
     ·exact fun h => ⟨fun e => d1 (zcz.2 e), by omega, fun hm => by have := this.2 hm; omega⟩
     ·intro h
      by_cases hz : 0 ≤ Lib.indexByte (bytesOf x.f3) 0
      ·exact absurd (this.1 hz) h.2.2
      ·omega
    ·rw [if_neg d2]
     exact ⟨false, rfl, by constructor <;> intro h; cases h; have := h.2.1; omega⟩
  obtain ⟨gb, hg, hgp⟩ := htg
  by_cases c4 : wrap64 ((x.f1.length : Int) + (x.f2.length : Int)) = 0
  ·rw [if_pos c4, hg, Option.bind_some] at h
   cases gb with
   | true =>
    rw [if_pos rfl, ht] at h
    rw [← Option.some.inj (show some tb = _ from h), htp]
    have := hgp.1 rfl
    exact ⟨fun h => ⟨⟨h, this.1, this.2.1, this.2.2, (hw.1 c4).1, (hw.1 c4).2⟩, fun _ => trivial, fun h => by omega⟩, fun h => h.1.1⟩
   | false =>
    rw [if_neg (by simp)] at h
    rw [← Option.some.inj h]
    exact ⟨fun h => by (cases h), fun h => absurd (hgp.2 ⟨h.1.2.1, h.1.2.2.1, h.1.2.2.2.1⟩) (by simp)⟩
  ·rw [if_neg c4] at h
   rw [← Option.some.inj h]
   exact ⟨fun h => by (cases h), fun h => absurd (hw.2 ⟨h.1.2.2.2.2.1, h.1.2.2.2.2.2⟩) c4⟩
 ·rw [if_neg c3] at h
  rw [← Option.some.inj h]
  refine ⟨fun h => by (cases h), fun h => ?_⟩
  rcases h.1 with h | h | h | h <;> (have := h.1; omega)
theorem page_names (x : S40) (hx : FitsN x) (y : S40) (hn : ∀ z ∈ x.f2, z.f0.size < 9223372036854775807) (ey1 : y.f1 = []) : ∀ (d i : Nat) (b : Bool), i + d = x.f2.length →
  EvB (fun k => zao.l0 k b (i : Int) x.f0 x.f1 x.f2 x.f3 x.f4 x.f5 y.f0 y.f2 y.f3 y.f4 y.f5) (b = true ∧ (∀ j, i ≤ j → j < x.f2.length → okR x.f2 j) ∧ x = y)
 | 0, i, b, h => by
  cases b with
  | true =>
   refine EvB.step ((EvB.same (eqNode x y hx)).iff ⟨fun h' => ⟨rfl, fun j h1 h2 => by omega, h'⟩, fun h' => h'.2.2⟩) (fun k => ?_)
   rw [zao.l0, if_neg (by omega), if_pos rfl]
   unfold eqNodeF; rw [ey1]
  | false =>
   refine EvB.step (EvB.no (fun h => by (cases h.1))) (fun k => ?_)
   rw [zao.l0, if_neg (by omega), if_neg (by simp)]
 | d + 1, i, b, h => by
  cases b with
  | false =>
   refine EvB.step (EvB.no (fun h => by (cases h.1))) (fun k => ?_)
   rw [zao.l0, if_pos (by omega), if_neg (by simp)]
  | true =>
   have hsz : (zau x.f2 (i : Int)).f0.size < 9223372036854775807 := by rw [zbS x.f2 i (by omega)]; exact hn _ (List.getElem_mem _)
   have hpn := page_name (zau x.f2 (i : Int)).f0 hsz
   by_cases c0 : nameP (zau x.f2 (i : Int)).f0 = 0
   ·rw [c0] at hpn
    by_cases c1 : i = 0
    ·subst c1
     obtain ⟨r, h1, h2⟩ := page_names x hx y hn ey1 d 1 true (by omega)
     refine ⟨r, Ev.step (f := fun k => (zat.f k (zau x.f2 ((0 : Nat) : Int)).f0).bind fun t => if t = 0 then zao.l0 k true ((1 : Nat) : Int) x.f0 x.f1 x.f2 x.f3 x.f4 x.f5 y.f0 y.f2 y.f3 y.f4 y.f5 else zao.l0 k false ((1 : Nat) : Int) x.f0 x.f1 x.f2 x.f3 x.f4 x.f5 y.f0 y.f2 y.f3 y.f4 y.f5) (fun k => ?_) (Ev.bind (f := fun k t => if t = 0 then zao.l0 k true ((1 : Nat) : Int) x.f0 x.f1 x.f2 x.f3 x.f4 x.f5 y.f0 y.f2 y.f3 y.f4 y.f5 else zao.l0 k false ((1 : Nat) : Int) x.f0 x.f1 x.f2 x.f3 x.f4 x.f5 y.f0 y.f2 y.f3 y.f4 y.f5) hpn (Ev.congr (fun k => if_pos rfl) h1)), h2.trans ?_⟩
     ·rw [zao.l0, if_pos (by omega), if_pos rfl, if_pos (by omega)]
      congr 1; funext t
      rw [if_pos (show ((0 : Nat) : Int) = 0 from rfl), show wrap64 (((0 : Nat) : Int) + 1) = ((1 : Nat) : Int) by unfold wrap64; omega]
     ·exact ⟨fun h => ⟨rfl, fun j h3 h4 => by
       by_cases e : j = 0
       ·subst e; exact ⟨c0, .inl rfl⟩
       ·exact h.2.1 j (by omega) h4, h.2.2⟩, fun h => ⟨rfl, fun j h3 h4 => h.2.1 j (by omega) h4, h.2.2⟩⟩
    ·have hw1 : wrap64 ((i : Int) - 1) = (i : Int) - 1 := by have := hx.2; unfold wrap64; omega
     obtain ⟨r, h1, h2⟩ := page_names x hx y hn ey1 d (i + 1) (Op.bytesLess (zau x.f2 ((i : Int) - 1)).f0.toList (zau x.f2 (i : Int)).f0.toList) (by omega)
     refine ⟨r, Ev.step (f := fun k => (zat.f k (zau x.f2 (i : Int)).f0).bind fun t => if t = 0 then zao.l0 k (Op.bytesLess (zau x.f2 ((i : Int) - 1)).f0.toList (zau x.f2 (i : Int)).f0.toList) ((i + 1 : Nat) : Int) x.f0 x.f1 x.f2 x.f3 x.f4 x.f5 y.f0 y.f2 y.f3 y.f4 y.f5 else zao.l0 k false ((i + 1 : Nat) : Int) x.f0 x.f1 x.f2 x.f3 x.f4 x.f5 y.f0 y.f2 y.f3 y.f4 y.f5) (fun k => ?_) (Ev.bind (f := fun k t => if t = 0 then zao.l0 k (Op.bytesLess (zau x.f2 ((i : Int) - 1)).f0.toList (zau x.f2 (i : Int)).f0.toList) ((i + 1 : Nat) : Int) x.f0 x.f1 x.f2 x.f3 x.f4 x.f5 y.f0 y.f2 y.f3 y.f4 y.f5 else zao.l0 k false ((i + 1 : Nat) : Int) x.f0 x.f1 x.f2 x.f3 x.f4 x.f5 y.f0 y.f2 y.f3 y.f4 y.f5) hpn (Ev.congr (fun k => if_pos rfl) h1)), h2.trans ?_⟩
     ·rw [zao.l0, if_pos (by omega), if_pos rfl, if_pos (by omega)]
      congr 1; funext t
      rw [if_neg (show ¬ (i : Int) = 0 by omega), hw1, if_pos (show 0 ≤ (i : Int) - 1 by omega), if_pos (show (i : Int) - 1 < (x.f2.length : Int) by omega), up64 (by have := hx.2; omega)]
     ·constructor
      ·intro h
       refine ⟨rfl, fun j h3 h4 => ?_, h.2.2⟩
       by_cases e : j = i
       ·subst e; exact ⟨c0, .inr h.1⟩
       ·exact h.2.1 j (by omega) h4
      ·intro h
       exact ⟨(h.2.1 i (Nat.le_refl _) (by omega)).2.resolve_left c1, fun j h3 h4 => h.2.1 j (by omega) h4, h.2.2⟩
   ·obtain ⟨r, h1, h2⟩ := page_names x hx y hn ey1 d (i + 1) false (by omega)
    obtain rfl : r = false := by
     cases r with
     | false => rfl
     | true => have := (h2.1 rfl).1; cases this
    refine ⟨false, Ev.step (f := fun k => (zat.f k (zau x.f2 (i : Int)).f0).bind fun t => if t = 0 then (if (i : Int) = 0 then zao.l0 k true (wrap64 ((i : Int) + 1)) x.f0 x.f1 x.f2 x.f3 x.f4 x.f5 y.f0 y.f2 y.f3 y.f4 y.f5 else (if 0 ≤ (wrap64 ((i : Int) - 1)) then (if (wrap64 ((i : Int) - 1)) < (x.f2.length : Int) then zao.l0 k (Op.bytesLess (zau x.f2 (wrap64 ((i : Int) - 1))).f0.toList (zau x.f2 (i : Int)).f0.toList) (wrap64 ((i : Int) + 1)) x.f0 x.f1 x.f2 x.f3 x.f4 x.f5 y.f0 y.f2 y.f3 y.f4 y.f5 else none) else none)) else zao.l0 k false (wrap64 ((i : Int) + 1)) x.f0 x.f1 x.f2 x.f3 x.f4 x.f5 y.f0 y.f2 y.f3 y.f4 y.f5) (fun k => ?_) (Ev.bind (f := fun k t => if t = 0 then (if (i : Int) = 0 then zao.l0 k true (wrap64 ((i : Int) + 1)) x.f0 x.f1 x.f2 x.f3 x.f4 x.f5 y.f0 y.f2 y.f3 y.f4 y.f5 else (if 0 ≤ (wrap64 ((i : Int) - 1)) then (if (wrap64 ((i : Int) - 1)) < (x.f2.length : Int) then zao.l0 k (Op.bytesLess (zau x.f2 (wrap64 ((i : Int) - 1))).f0.toList (zau x.f2 (i : Int)).f0.toList) (wrap64 ((i : Int) + 1)) x.f0 x.f1 x.f2 x.f3 x.f4 x.f5 y.f0 y.f2 y.f3 y.f4 y.f5 else none) else none)) else zao.l0 k false (wrap64 ((i : Int) + 1)) x.f0 x.f1 x.f2 x.f3 x.f4 x.f5 y.f0 y.f2 y.f3 y.f4 y.f5) hpn (Ev.congr (fun k => ?_) h1)), ?_⟩
    ·rw [zao.l0, if_pos (by omega), if_pos rfl, if_pos (by omega)]
    ·rw [if_neg c0, up64 (by have := hx.2; omega)]
    ·exact ⟨fun h => by (cases h), fun h => absurd (h.2.1 i (Nat.le_refl _) (by omega)).1 c0⟩
end Go.Proofs.YtjghephnjkffcaaGreat.PAll
