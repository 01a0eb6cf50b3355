/- Parts of one proof, merged by a program of this repo: walks over the given program and plain facts. -/
import Derived.Test.YtjghephnjkffcaaGreatMTreeWrites4
import Derived.Test.YtjghephnjkffcaaGreatMTreeWrites5
namespace Go.Proofs.YtjghephnjkffcaaGreat.PAll
open Go.RowKit Go.Proofs.YtjghephnjkffcaaGreatW.PrintWords Go.Proofs.YtjghephnjkffcaaGreatW.PrintLast Go.Proofs.YtjghephnjkffcaaGreatW.PrintMore
attribute [local go_sem] zb2 zb0 zcn zcm zbF zbE zb1 zbZ
set_option linter.unusedVariables false
set_option linter.unusedSimpArgs false
mutual
def zaq.j0 : Nat → Bool → Int → List Int → List (S50) → ByteArray → Int → Int → Int → ByteArray → Int → Int → Option (Bool)
 | 0, _, _, _, _, _, _, _, _, _, _, _ => none
 | k + 1, x4, x158000, x158001, x158002, x158003, x158004, x158005, x159000, x159003, x159004, x159005 => if x158000 = 0 then ((zaL.f k x158000 x158001 x158002 x158003 x158004 x158005 0 ([] : List Int) ([] : List (S50)) (⟨#[]⟩ : ByteArray) 0 0).bind fun t160 => (some t160)) else (if x158000 = 1 then (if x4 = true then (if (x158001.length : Int) ≤ 16384 then ((zaL.f k x158000 x158001 x158002 x158003 x158004 x158005 x159000 x158001 ([] : List (S50)) x159003 x159004 x159005).bind fun t161 => (some t161)) else (some false)) else (some false)) else (if x158000 = 2 then (if x4 = true then (zaq.j1 k (decide ((x158002.length : Int) ≤ 64)) x158000 x158001 x158002 x158003 x158004 x158005 x159000 x158002 x159003 x159004 x159005) else (zaq.j1 k false x158000 x158001 x158002 x158003 x158004 x158005 x159000 x158002 x159003 x159004 x159005)) else (if x158000 = 3 then (if x4 = true then (if (x158003.size : Int) ≥ 1 then (if (x158003.size : Int) ≤ 512 then ((zaN.f k x158003).bind fun t167 => (if t167 = true then (some false) else ((zaL.f k x158000 x158001 x158002 x158003 x158004 x158005 x159000 ([] : List Int) ([] : List (S50)) x158003 x159004 x159005).bind fun t168 => (some t168)))) else (some false)) else (some false)) else (some false)) else (some false))))
def zaq.j1 : Nat → Bool → Int → List Int → List (S50) → ByteArray → Int → Int → Int → List (S50) → ByteArray → Int → Int → Option (Bool)
 | 0, _, _, _, _, _, _, _, _, _, _, _, _ => none
 | k + 1, x4, x158000, x158001, x158002, x158003, x158004, x158005, x159000, x159002, x159003, x159004, x159005 => zaq.l0 k x4 0 x158000 x158001 x158002 x158003 x158004 x158005 x159000 x159002 x159003 x159004 x159005
def zaq.l0 : Nat → Bool → Int → Int → List Int → List (S50) → ByteArray → Int → Int → Int → List (S50) → ByteArray → Int → Int → Option (Bool)
 | 0, _, _, _, _, _, _, _, _, _, _, _, _, _ => none
 | k + 1, x4, x5, x158000, x158001, x158002, x158003, x158004, x158005, x159000, x159002, x159003, x159004, x159005 => if x5 < (x158002.length : Int) then (if x4 = true then (if 0 ≤ x5 then ((zat.f k ((zau x158002 x5).f0)).bind fun t163 => (if t163 = 0 then (if x5 = 0 then (zaq.l0 k true (wrap64 (x5 + 1)) x158000 x158001 x158002 x158003 x158004 x158005 x159000 x159002 x159003 x159004 x159005) else (if 0 ≤ (wrap64 (x5 - 1)) then (if (wrap64 (x5 - 1)) < (x158002.length : Int) then (zaq.l0 k (Op.bytesLess (((zau x158002 (wrap64 (x5 - 1))).f0).toList) (((zau x158002 x5).f0).toList)) (wrap64 (x5 + 1)) x158000 x158001 x158002 x158003 x158004 x158005 x159000 x159002 x159003 x159004 x159005) else (none)) else (none))) else (zaq.l0 k false (wrap64 (x5 + 1)) x158000 x158001 x158002 x158003 x158004 x158005 x159000 x159002 x159003 x159004 x159005))) else (none)) else (some false)) else (if x4 = true then ((zaL.f k x158000 x158001 x158002 x158003 x158004 x158005 x159000 ([] : List Int) x159002 x159003 x159004 x159005).bind fun t166 => (some t166)) else (some false))
end
def zaq.f (k : Nat) (a0_0 : Int) (l0_1 : List Int) (l0_2 : List (S50)) (a0_3 : ByteArray) (a0_4 : Int) (a0_5 : Int) : Option (Bool) := (za0.f a0_5).bind fun t159 => (if t159 = true then (zaq.j0 k (decide (a0_4 ≥ 0)) a0_0 l0_1 l0_2 a0_3 a0_4 a0_5 a0_0 (⟨#[]⟩ : ByteArray) a0_4 a0_5) else (zaq.j0 k false a0_0 l0_1 l0_2 a0_3 a0_4 a0_5 a0_0 (⟨#[]⟩ : ByteArray) a0_4 a0_5))
set_option maxHeartbeats 8000000 in
set_option maxRecDepth 100000 in
theorem zaq.calls (k : Nat) (a0_0 : Int) (A0_1 : Option Addr) (c0_1 : Nat) (l0_1 : List Int) (A0_2 : Option Addr) (c0_2 : Nat) (l0_2 : List (S50)) (a0_3 : ByteArray) (a0_4 : Int) (a0_5 : Int) (r : Bool) (w : World) (hr0_1 : Kd.C (Kd.int .u8) w A0_1 l0_1.length l0_1) (hc0_1 : l0_1.length ≤ c0_1) (hr0_2 : Kd.C k50 w A0_2 l0_2.length l0_2) (hc0_2 : l0_2.length ≤ c0_2) (h : zaq.f k a0_0 l0_1 l0_2 a0_3 a0_4 a0_5 = some r) :
  Calls Tryz.prog 23 #[.agg #[.int .i64 a0_0, .slice A0_1 l0_1.length c0_1, .slice A0_2 l0_2.length c0_2, .string a0_3, .int .i64 a0_4, .int .i64 a0_5]] w fun e w' => e = .returned (.bool r) ∧ Below w.heap.size w w' := by
 have hu40 := Tryz.underlying40
 have HR0_1 := zaa.mk hr0_1
 have HC0_1 := zaa.mk hc0_1
 clear hr0_1 hc0_1
 have HR0_2 := zaa.mk hr0_2
 have HC0_2 := zaa.mk hc0_2
 clear hr0_2 hc0_2
 have HB := zaa.mk (Below.refl w.heap.size w)
 have H : ((za0.f a0_5).bind fun t159 => (if t159 = true then (zaq.j0 k (decide (a0_4 ≥ 0)) a0_0 l0_1 l0_2 a0_3 a0_4 a0_5 a0_0 (⟨#[]⟩ : ByteArray) a0_4 a0_5) else (zaq.j0 k false a0_0 l0_1 l0_2 a0_3 a0_4 a0_5 a0_0 (⟨#[]⟩ : ByteArray) a0_4 a0_5))) = some r := h
 clear h
 have HC2 := zaa.mk H
 clear H
 go_enter Tryz.func23, Tryz.ntmps23
 go_upto_region 2 with (first | ((with_reducible refine zaS (N := 1) rfl ?_); (try (refine zby (by rfl) ?_; dsimp only)); refine zaG ?hg (N := 1) ?hd (cs := #[.int .i64 a0_0, .slice A0_1 l0_1.length c0_1, .slice A0_2 l0_2.length c0_2, .string a0_3, .int .i64 a0_4, .int .i64 a0_5]) (t := 40) ?hr ?_; (case hd => rfl); (case hg => rfl); (case hr => first | (go_simp; done) | (go_simp; rfl)); intro gb157 hg w3 hbox hb; have n0_ := zaa.mk (zam (by repeat (first | (with_reducible first | exact HB.out | apply zad | apply zab | apply zae) | exact HB.out)) hb); have n1_ := zaa.mk (hbox); have n2_ := zaa.mk ((by rw [hg]; exact (zar (by repeat (first | (with_reducible first | exact HB.out | apply zad | apply zab | apply zae) | exact HB.out))) : w.heap.size ≤ gb157)); have n3_ := zaa.mk ((by rw [hg]; exact (zar (by repeat (first | (with_reducible first | exact HB.out | apply zad | apply zab | apply zae) | exact HB.out))) : w.heap.size ≤ gb157)); clear HB; have HB := n0_; have BK157 := n1_; have GW157 := n2_; have GE157 := n3_; clear n0_ n1_ n2_ n3_; clear hb hbox hg; have hcz4_0 : w3.cell? ⟨gb157, 0, none⟩ = some (.int .i64 a0_0) := (zac BK157.out 0).trans rfl; have hcz4_1 : w3.cell? ⟨gb157, 1, none⟩ = some (.slice A0_1 l0_1.length c0_1) := (zac BK157.out 1).trans rfl; have hcz4_2 : w3.cell? ⟨gb157, 2, none⟩ = some (.slice A0_2 l0_2.length c0_2) := (zac BK157.out 2).trans rfl; have hcz4_3 : w3.cell? ⟨gb157, 3, none⟩ = some (.string a0_3) := (zac BK157.out 3).trans rfl; have hcz4_4 : w3.cell? ⟨gb157, 4, none⟩ = some (.int .i64 a0_4) := (zac BK157.out 4).trans rfl; have hcz4_5 : w3.cell? ⟨gb157, 5, none⟩ = some (.int .i64 a0_5) := (zac BK157.out 5).trans rfl; have hfz4_0 := zaf BK157.out 0; have hfz4_1 := zaf BK157.out 1; have hfz4_2 := zaf BK157.out 2; have hfz4_3 := zaf BK157.out 3; have hfz4_4 := zaf BK157.out 4; have hfz4_5 := zaf BK157.out 5) | ((with_reducible refine zaS (N := 3) rfl ?_); (try (refine zby (by rfl) ?_; dsimp only)); refine zaG ?hg (N := 3) ?hd (cs := #[.int .i64 0, .slice none 0 0, .slice none 0 0, .string (⟨#[]⟩ : ByteArray), .int .i64 0, .int .i64 0]) (t := 40) ?hr ?_; (case hd => rfl); (case hg => rfl); (case hr => first | (go_simp; done) | (go_simp; rfl)); intro gb158 hg w5 hbox hb; have n0_ := zaa.mk (zan (g := gb157) (o := .cells #[.int .i64 a0_0, .slice A0_1 l0_1.length c0_1, .slice A0_2 l0_2.length c0_2, .string a0_3, .int .i64 a0_4, .int .i64 a0_5] 40 (0, 0)) (by (with_reducible repeat (first | refine zaj ?_ _ | refine zak ?_ | refine zai ?_ _)); exact BK157.out) hb); have n1_ := zaa.mk (zam (by repeat (first | (with_reducible first | exact HB.out | apply zad | apply zab | apply zae | refine zal ?_ GE157.out) | exact HB.out)) hb); have n2_ := zaa.mk (hbox); have n3_ := zaa.mk ((by rw [hg]; exact (zar (by repeat (first | (with_reducible first | exact HB.out | apply zad | apply zab | apply zae | refine zal ?_ GE157.out) | exact HB.out))) : w.heap.size ≤ gb158)); have n4_ := zaa.mk ((by rw [hg]; exact (zar (by repeat (first | (with_reducible first | exact HB.out | apply zad | apply zab | apply zae | refine zal ?_ GE157.out) | exact HB.out))) : w.heap.size ≤ gb158)); have n5_ := zaa.mk ((by rw [hg]; exact Nat.ne_of_lt (zaO (g := gb157) (o := .cells #[.int .i64 a0_0, .slice A0_1 l0_1.length c0_1, .slice A0_2 l0_2.length c0_2, .string a0_3, .int .i64 a0_4, .int .i64 a0_5] 40 (0, 0)) (by (with_reducible repeat (first | refine zaj ?_ _ | refine zak ?_ | refine zai ?_ _)); exact BK157.out)) : gb157 ≠ gb158)); have n6_ := zaa.mk ((by rw [hg]; exact Nat.ne_of_gt (zaO (g := gb157) (o := .cells #[.int .i64 a0_0, .slice A0_1 l0_1.length c0_1, .slice A0_2 l0_2.length c0_2, .string a0_3, .int .i64 a0_4, .int .i64 a0_5] 40 (0, 0)) (by (with_reducible repeat (first | refine zaj ?_ _ | refine zak ?_ | refine zai ?_ _)); exact BK157.out)) : gb158 ≠ gb157)); clear BK157; clear HB; have BK157 := n0_; have HB := n1_; have BK158 := n2_; have GW158 := n3_; have GE158 := n4_; have NB157_158 := n5_; have NB158_157 := n6_; clear n0_ n1_ n2_ n3_ n4_ n5_ n6_; clear hb hbox hg; have hnb6 := NB158_157.out; have hnc6 := NB157_158.out; have hcz7_0 : w5.cell? ⟨gb158, 0, none⟩ = some (.int .i64 0) := (zac BK158.out 0).trans rfl; have hcz7_1 : w5.cell? ⟨gb158, 1, none⟩ = some (.slice none 0 0) := (zac BK158.out 1).trans rfl; have hcz7_2 : w5.cell? ⟨gb158, 2, none⟩ = some (.slice none 0 0) := (zac BK158.out 2).trans rfl; have hcz7_3 : w5.cell? ⟨gb158, 3, none⟩ = some (.string (⟨#[]⟩ : ByteArray)) := (zac BK158.out 3).trans rfl; have hcz7_4 : w5.cell? ⟨gb158, 4, none⟩ = some (.int .i64 0) := (zac BK158.out 4).trans rfl; have hcz7_5 : w5.cell? ⟨gb158, 5, none⟩ = some (.int .i64 0) := (zac BK158.out 5).trans rfl; have hfz7_0 := zaf BK158.out 0; have hfz7_1 := zaf BK158.out 1; have hfz7_2 := zaf BK158.out 2; have hfz7_3 := zaf BK158.out 3; have hfz7_4 := zaf BK158.out 4; have hfz7_5 := zaf BK158.out 5))
 (try simp only [Act.put, List.setIfInBounds_toArray, List.set_cons_zero, List.set_cons_succ])
 go_cut [4] (fun v4 wc => ∃ (kq : Nat) (x4_1 : Bool), v4 = .bool x4_1 ∧ zaa (zaq.j0 kq x4_1 a0_0 l0_1 l0_2 a0_3 a0_4 a0_5 a0_0 (⟨#[]⟩ : ByteArray) a0_4 a0_5 = some r) ∧ zaa (kq ≤ k) ∧ zaa (wc.heap[gb157]? = some (.cells #[.int .i64 a0_0, (.slice A0_1 l0_1.length c0_1), (.slice A0_2 l0_2.length c0_2), .string a0_3, .int .i64 a0_4, .int .i64 a0_5] 40 (0, 0))) ∧ zaa (wc.heap[gb158]? = some (.cells #[.int .i64 a0_0, (.slice none 0 0), (.slice none 0 0), .string (⟨#[]⟩ : ByteArray), .int .i64 a0_4, .int .i64 a0_5] 40 (0, 0))) ∧ zaa (Below w.heap.size w wc))
 case first =>
  have H := HC2.out
  clear HC2
  replace H := Option.bind_eq_some_iff.mp H
  obtain ⟨t159, A80, H⟩ := H
  replace H : (if t159 = true then (zaq.j0 k (decide (a0_4 ≥ 0)) a0_0 l0_1 l0_2 a0_3 a0_4 a0_5 a0_0 (⟨#[]⟩ : ByteArray) a0_4 a0_5) else (zaq.j0 k false a0_0 l0_1 l0_2 a0_3 a0_4 a0_5 a0_0 (⟨#[]⟩ : ByteArray) a0_4 a0_5)) = some r := H
  have A8 := zaa.mk A80
  clear A80
  by_cases c9 : t159 = true
  ·subst c9
   have H1 : (zaq.j0 k (decide (a0_4 ≥ 0)) a0_0 l0_1 l0_2 a0_3 a0_4 a0_5 a0_0 (⟨#[]⟩ : ByteArray) a0_4 a0_5) = some r := by rw [if_pos rfl] at H; exact H
   clear H
   have H := H1
   clear H1
   have H' := zaa.mk H
   clear H
   have hnb10 := NB157_158.out
   have hnc10 := NB158_157.out
   have hcz11_0 := (zac BK157.out 0).trans rfl
   have hcz11_1 := (zac BK157.out 1).trans rfl
   have hcz11_2 := (zac BK157.out 2).trans rfl
   have hcz11_3 := (zac BK157.out 3).trans rfl
   have hcz11_4 := (zac BK157.out 4).trans rfl
   have hcz11_5 := (zac BK157.out 5).trans rfl
   have hfz11_0 := zaf BK157.out 0
   have hfz11_1 := zaf BK157.out 1
   have hfz11_2 := zaf BK157.out 2
   have hfz11_3 := zaf BK157.out 3
   have hfz11_4 := zaf BK157.out 4
   have hfz11_5 := zaf BK157.out 5
   go_wp2_with (first | (go_at_call 27; (with_reducible refine (za0.calls a0_5 true _ A8.out).mono ?_); rintro e w' ⟨rfl, ⟨nd, rfl⟩⟩; (try first | exact ⟨rfl, _, World.drewN_drewN _ _ _⟩ | exact ⟨rfl, _, Eq.trans (World.drewN_drewN _ _ _) (congrArg (World.drewN _) (Nat.add_assoc _ _ _))⟩)))
   repeat (go_quiet (first | (go_at_call 27; (with_reducible refine (za0.calls a0_5 true _ A8.out).mono ?_); rintro e w' ⟨rfl, ⟨nd, rfl⟩⟩; (try first | exact ⟨rfl, _, World.drewN_drewN _ _ _⟩ | exact ⟨rfl, _, Eq.trans (World.drewN_drewN _ _ _) (congrArg (World.drewN _) (Nat.add_assoc _ _ _))⟩))); try go_wp2_with (first | (go_at_call 27; (with_reducible refine (za0.calls a0_5 true _ A8.out).mono ?_); rintro e w' ⟨rfl, ⟨nd, rfl⟩⟩; (try first | exact ⟨rfl, _, World.drewN_drewN _ _ _⟩ | exact ⟨rfl, _, Eq.trans (World.drewN_drewN _ _ _) (congrArg (World.drewN _) (Nat.add_assoc _ _ _))⟩))))
   go_meet
   case rel => exact ⟨_, (decide (a0_4 ≥ 0)), (by first | rfl | (simp; done) | (simp [*]; done)), H', ⟨by first | omega | exact Nat.le_refl _⟩, ⟨by (with_reducible repeat (first | refine zaj ?_ _ | refine zak ?_ | refine zai ?_ _)); refine zaD ?_ NB157_158.out _; (with_reducible repeat (first | refine zaj ?_ _ | refine zak ?_ | refine zai ?_ _)); refine zaD ?_ NB157_158.out _; (with_reducible repeat (first | refine zaj ?_ _ | refine zak ?_ | refine zai ?_ _)); refine zaD ?_ NB157_158.out _; (with_reducible repeat (first | refine zaj ?_ _ | refine zak ?_ | refine zai ?_ _)); refine zaD ?_ NB157_158.out _; (with_reducible repeat (first | refine zaj ?_ _ | refine zak ?_ | refine zai ?_ _)); refine zaD ?_ NB157_158.out _; (with_reducible repeat (first | refine zaj ?_ _ | refine zak ?_ | refine zai ?_ _)); refine zaD ?_ NB157_158.out _; (with_reducible repeat (first | refine zaj ?_ _ | refine zak ?_ | refine zai ?_ _)); exact BK157.out⟩, ⟨by (with_reducible repeat (first | refine zaj ?_ _ | refine zak ?_ | refine zai ?_ _)); refine zaP (cs := #[.int .i64 a0_0, .slice none 0 0, .slice none 0 0, .string (⟨#[]⟩ : ByteArray), .int .i64 a0_4, .int .i64 0]) ?_ 5 _ rfl; (with_reducible repeat (first | refine zaj ?_ _ | refine zak ?_ | refine zai ?_ _)); refine zaP (cs := #[.int .i64 a0_0, .slice none 0 0, .slice none 0 0, .string (⟨#[]⟩ : ByteArray), .int .i64 0, .int .i64 0]) ?_ 4 _ rfl; (with_reducible repeat (first | refine zaj ?_ _ | refine zak ?_ | refine zai ?_ _)); refine zaP (cs := #[.int .i64 a0_0, .slice none 0 0, .slice none 0 0, .string (⟨#[]⟩ : ByteArray), .int .i64 0, .int .i64 0]) ?_ 3 _ rfl; (with_reducible repeat (first | refine zaj ?_ _ | refine zak ?_ | refine zai ?_ _)); refine zaP (cs := #[.int .i64 a0_0, .slice none 0 0, .slice none 0 0, .string (⟨#[]⟩ : ByteArray), .int .i64 0, .int .i64 0]) ?_ 2 _ rfl; (with_reducible repeat (first | refine zaj ?_ _ | refine zak ?_ | refine zai ?_ _)); refine zaP (cs := #[.int .i64 a0_0, .slice none 0 0, .slice none 0 0, .string (⟨#[]⟩ : ByteArray), .int .i64 0, .int .i64 0]) ?_ 1 _ rfl; (with_reducible repeat (first | refine zaj ?_ _ | refine zak ?_ | refine zai ?_ _)); refine zaP (cs := #[.int .i64 0, .slice none 0 0, .slice none 0 0, .string (⟨#[]⟩ : ByteArray), .int .i64 0, .int .i64 0]) ?_ 0 _ rfl; (with_reducible repeat (first | refine zaj ?_ _ | refine zak ?_ | refine zai ?_ _)); exact BK158.out⟩, ⟨by repeat (first | (with_reducible first | exact HB.out | apply zad | apply zab | apply zae | refine zal ?_ GE157.out | refine zal ?_ GE158.out) | exact HB.out)⟩⟩
  ·replace c9 := Bool.eq_false_iff.mpr c9
   subst c9
   have H1 : (zaq.j0 k false a0_0 l0_1 l0_2 a0_3 a0_4 a0_5 a0_0 (⟨#[]⟩ : ByteArray) a0_4 a0_5) = some r := by rw [if_neg (show ¬ (false = true) by decide)] at H; exact H
   clear H
   have H := H1
   clear H1
   have H' := zaa.mk H
   clear H
   have hnb12 := NB157_158.out
   have hnc12 := NB158_157.out
   have hcz13_0 := (zac BK157.out 0).trans rfl
   have hcz13_1 := (zac BK157.out 1).trans rfl
   have hcz13_2 := (zac BK157.out 2).trans rfl
   have hcz13_3 := (zac BK157.out 3).trans rfl
   have hcz13_4 := (zac BK157.out 4).trans rfl
   have hcz13_5 := (zac BK157.out 5).trans rfl
   have hfz13_0 := zaf BK157.out 0
   have hfz13_1 := zaf BK157.out 1
   have hfz13_2 := zaf BK157.out 2
   have hfz13_3 := zaf BK157.out 3
   have hfz13_4 := zaf BK157.out 4
   have hfz13_5 := zaf BK157.out 5
   go_wp2_with (first | (go_at_call 27; (with_reducible refine (za0.calls a0_5 false _ A8.out).mono ?_); rintro e w' ⟨rfl, ⟨nd, rfl⟩⟩; (try first | exact ⟨rfl, _, World.drewN_drewN _ _ _⟩ | exact ⟨rfl, _, Eq.trans (World.drewN_drewN _ _ _) (congrArg (World.drewN _) (Nat.add_assoc _ _ _))⟩)))
   repeat (go_quiet (first | (go_at_call 27; (with_reducible refine (za0.calls a0_5 false _ A8.out).mono ?_); rintro e w' ⟨rfl, ⟨nd, rfl⟩⟩; (try first | exact ⟨rfl, _, World.drewN_drewN _ _ _⟩ | exact ⟨rfl, _, Eq.trans (World.drewN_drewN _ _ _) (congrArg (World.drewN _) (Nat.add_assoc _ _ _))⟩))); try go_wp2_with (first | (go_at_call 27; (with_reducible refine (za0.calls a0_5 false _ A8.out).mono ?_); rintro e w' ⟨rfl, ⟨nd, rfl⟩⟩; (try first | exact ⟨rfl, _, World.drewN_drewN _ _ _⟩ | exact ⟨rfl, _, Eq.trans (World.drewN_drewN _ _ _) (congrArg (World.drewN _) (Nat.add_assoc _ _ _))⟩))))
   go_meet
   case rel => exact ⟨_, (false), (by first | rfl | (simp; done) | (simp [*]; done)), H', ⟨by first | omega | exact Nat.le_refl _⟩, ⟨by (with_reducible repeat (first | refine zaj ?_ _ | refine zak ?_ | refine zai ?_ _)); refine zaD ?_ NB157_158.out _; (with_reducible repeat (first | refine zaj ?_ _ | refine zak ?_ | refine zai ?_ _)); refine zaD ?_ NB157_158.out _; (with_reducible repeat (first | refine zaj ?_ _ | refine zak ?_ | refine zai ?_ _)); refine zaD ?_ NB157_158.out _; (with_reducible repeat (first | refine zaj ?_ _ | refine zak ?_ | refine zai ?_ _)); refine zaD ?_ NB157_158.out _; (with_reducible repeat (first | refine zaj ?_ _ | refine zak ?_ | refine zai ?_ _)); refine zaD ?_ NB157_158.out _; (with_reducible repeat (first | refine zaj ?_ _ | refine zak ?_ | refine zai ?_ _)); refine zaD ?_ NB157_158.out _; (with_reducible repeat (first | refine zaj ?_ _ | refine zak ?_ | refine zai ?_ _)); exact BK157.out⟩, ⟨by (with_reducible repeat (first | refine zaj ?_ _ | refine zak ?_ | refine zai ?_ _)); refine zaP (cs := #[.int .i64 a0_0, .slice none 0 0, .slice none 0 0, .string (⟨#[]⟩ : ByteArray), .int .i64 a0_4, .int .i64 0]) ?_ 5 _ rfl; (with_reducible repeat (first | refine zaj ?_ _ | refine zak ?_ | refine zai ?_ _)); refine zaP (cs := #[.int .i64 a0_0, .slice none 0 0, .slice none 0 0, .string (⟨#[]⟩ : ByteArray), .int .i64 0, .int .i64 0]) ?_ 4 _ rfl; (with_reducible repeat (first | refine zaj ?_ _ | refine zak ?_ | refine zai ?_ _)); refine zaP (cs := #[.int .i64 a0_0, .slice none 0 0, .slice none 0 0, .string (⟨#[]⟩ : ByteArray), .int .i64 0, .int .i64 0]) ?_ 3 _ rfl; (with_reducible repeat (first | refine zaj ?_ _ | refine zak ?_ | refine zai ?_ _)); refine zaP (cs := #[.int .i64 a0_0, .slice none 0 0, .slice none 0 0, .string (⟨#[]⟩ : ByteArray), .int .i64 0, .int .i64 0]) ?_ 2 _ rfl; (with_reducible repeat (first | refine zaj ?_ _ | refine zak ?_ | refine zai ?_ _)); refine zaP (cs := #[.int .i64 a0_0, .slice none 0 0, .slice none 0 0, .string (⟨#[]⟩ : ByteArray), .int .i64 0, .int .i64 0]) ?_ 1 _ rfl; (with_reducible repeat (first | refine zaj ?_ _ | refine zak ?_ | refine zai ?_ _)); refine zaP (cs := #[.int .i64 0, .slice none 0 0, .slice none 0 0, .string (⟨#[]⟩ : ByteArray), .int .i64 0, .int .i64 0]) ?_ 0 _ rfl; (with_reducible repeat (first | refine zaj ?_ _ | refine zak ?_ | refine zai ?_ _)); exact BK158.out⟩, ⟨by repeat (first | (with_reducible first | exact HB.out | apply zad | apply zab | apply zae | refine zal ?_ GE157.out | refine zal ?_ GE158.out) | exact HB.out)⟩⟩
 case rest =>
  clear HC2
  try clear hcz4_0
  try clear hcz4_1
  try clear hcz4_2
  try clear hcz4_3
  try clear hcz4_4
  try clear hcz4_5
  try clear hcz7_0
  try clear hcz7_1
  try clear hcz7_2
  try clear hcz7_3
  try clear hcz7_4
  try clear hcz7_5
  try clear hfz4_0
  try clear hfz4_1
  try clear hfz4_2
  try clear hfz4_3
  try clear hfz4_4
  try clear hfz4_5
  try clear hfz7_0
  try clear hfz7_1
  try clear hfz7_2
  try clear hfz7_3
  try clear hfz7_4
  try clear hfz7_5
  obtain ⟨kq, x4_1, rfl, HA, HJ1, BK157, BK158, HB⟩ := hcut
  cases kq with
  | zero => exact absurd HA.out (by simp [zaq.j0])
  | succ kj1 =>
   have H := HA.out
   clear HA
   simp only [zaq.j0] at H
   by_cases c14 : a0_0 = 0
   ·rw [if_pos c14] at H
    have c14b0 : (a0_0 == 0) = true := beq_iff_eq.mpr c14
    have c14b1 : (a0_0 != 0) = false := bne_eq_false_iff_eq.mpr c14
    clear c14
    replace H := Option.bind_eq_some_iff.mp H
    obtain ⟨t160, A150, H⟩ := H
    replace H : (some t160) = some r := H
    have A15 := zaa.mk A150
    clear A150
    obtain rfl := Option.some.inj H
    have hnb16 := NB157_158.out
    have hnc16 := NB158_157.out
    have hcz17_0 := (zac BK157.out 0).trans rfl
    have hcz17_1 := (zac BK157.out 1).trans rfl
    have hcz17_2 := (zac BK157.out 2).trans rfl
    have hcz17_3 := (zac BK157.out 3).trans rfl
    have hcz17_4 := (zac BK157.out 4).trans rfl
    have hcz17_5 := (zac BK157.out 5).trans rfl
    have hfz17_0 := zaf BK157.out 0
    have hfz17_1 := zaf BK157.out 1
    have hfz17_2 := zaf BK157.out 2
    have hfz17_3 := zaf BK157.out 3
    have hfz17_4 := zaf BK157.out 4
    have hfz17_5 := zaf BK157.out 5
    go_wp2_with (first | (go_at_call 58; (refine (zaL.calls kj1 a0_0 _ _ l0_1 _ _ l0_2 a0_3 a0_4 a0_5 0 _ _ ([] : List Int) _ _ ([] : List (S50)) (⟨#[]⟩ : ByteArray) 0 0 t160 _ ?side1 ?side2 ?side3 ?side4 ?side5 ?side6 ?side7 ?side8 A15.out).mono ?_); (case side1 => repeat (first | exact (Kd.C_below HR0_1.out HB.out) | (with_reducible refine Kd.C_alloc ?_ _) | (with_reducible refine Kd.C_drewN ?_ _) | (with_reducible refine Kd.C_drew ?_))); (case side2 => exact HC0_1.out); (case side3 => repeat (first | exact (Kd.C_below HR0_2.out HB.out) | (with_reducible refine Kd.C_alloc ?_ _) | (with_reducible refine Kd.C_drewN ?_ _) | (with_reducible refine Kd.C_drew ?_))); (case side4 => exact HC0_2.out); (case side5 => exact Kd.C_nil _ _); (case side6 => exact Nat.le_refl _); (case side7 => exact Kd.C_nil _ _); (case side8 => exact Nat.le_refl _); rintro e w18 ⟨rfl, hb⟩; have n0_ := zaa.mk (zan (g := gb157) (o := .cells #[.int .i64 a0_0, .slice A0_1 l0_1.length c0_1, .slice A0_2 l0_2.length c0_2, .string a0_3, .int .i64 a0_4, .int .i64 a0_5] 40 (0, 0)) (by (with_reducible repeat (first | refine zaj ?_ _ | refine zak ?_ | refine zai ?_ _)); exact BK157.out) hb); have n1_ := zaa.mk (zan (g := gb158) (o := .cells #[.int .i64 a0_0, .slice none 0 0, .slice none 0 0, .string (⟨#[]⟩ : ByteArray), .int .i64 a0_4, .int .i64 a0_5] 40 (0, 0)) (by (with_reducible repeat (first | refine zaj ?_ _ | refine zak ?_ | refine zai ?_ _)); exact BK158.out) hb); have n2_ := zaa.mk (zam (by repeat (first | (with_reducible first | exact HB.out | apply zad | apply zab | apply zae | refine zal ?_ GE157.out | refine zal ?_ GE158.out) | exact HB.out)) hb); clear BK157; clear BK158; clear HB; have BK157 := n0_; have BK158 := n1_; have HB := n2_; clear n0_ n1_ n2_; (try clear hb); (try clear hb2); (try clear hk); (try clear hi)))
    go_ret
    exact ⟨by first | rfl | (simp [zaw, zav] <;> rfl) | (simp [*, zaw, zav] <;> rfl), by repeat (first | (with_reducible first | exact HB.out | apply zad | apply zab | apply zae | refine zal ?_ GE157.out | refine zal ?_ GE158.out) | exact HB.out)⟩
   ·rw [if_neg c14] at H
    have c14b0 : (a0_0 == 0) = false := beq_eq_false_iff_ne.mpr c14
    have c14b1 : (a0_0 != 0) = true := bne_iff_ne.mpr c14
    by_cases c19 : a0_0 = 1
    ·rw [if_pos c19] at H
     have c19b0 : (a0_0 == 1) = true := beq_iff_eq.mpr c19
     have c19b1 : (a0_0 != 1) = false := bne_eq_false_iff_eq.mpr c19
     clear c19
     by_cases c20 : x4_1 = true
     ·subst c20
      have H1 : (if (l0_1.length : Int) ≤ 16384 then ((zaL.f kj1 a0_0 l0_1 l0_2 a0_3 a0_4 a0_5 a0_0 l0_1 ([] : List (S50)) (⟨#[]⟩ : ByteArray) a0_4 a0_5).bind fun t161 => (some t161)) else (some false)) = some r := by rw [if_pos rfl] at H; exact H
      clear H
      have H := H1
      clear H1
      by_cases c21 : (l0_1.length : Int) ≤ 16384
      ·rw [if_pos c21] at H
       have c21b0 : decide ((l0_1.length : Int) ≤ 16384) = true := decide_eq_true c21
       have c21b1 : decide (l0_1.length ≤ 16384) = true := decide_eq_true (by omega)
       clear c21
       replace H := Option.bind_eq_some_iff.mp H
       obtain ⟨t161, A220, H⟩ := H
       replace H : (some t161) = some r := H
       have A22 := zaa.mk A220
       clear A220
       obtain rfl := Option.some.inj H
       have hnb23 := NB157_158.out
       have hnc23 := NB158_157.out
       have hcz24_0 := (zac BK157.out 0).trans rfl
       have hcz24_1 := (zac BK157.out 1).trans rfl
       have hcz24_2 := (zac BK157.out 2).trans rfl
       have hcz24_3 := (zac BK157.out 3).trans rfl
       have hcz24_4 := (zac BK157.out 4).trans rfl
       have hcz24_5 := (zac BK157.out 5).trans rfl
       have hfz24_0 := zaf BK157.out 0
       have hfz24_1 := zaf BK157.out 1
       have hfz24_2 := zaf BK157.out 2
       have hfz24_3 := zaf BK157.out 3
       have hfz24_4 := zaf BK157.out 4
       have hfz24_5 := zaf BK157.out 5
       have hcz25_0 := (zac BK158.out 0).trans rfl
       have hcz25_1 := (zac BK158.out 1).trans rfl
       have hcz25_2 := (zac BK158.out 2).trans rfl
       have hcz25_3 := (zac BK158.out 3).trans rfl
       have hcz25_4 := (zac BK158.out 4).trans rfl
       have hcz25_5 := (zac BK158.out 5).trans rfl
       have hfz25_0 := zaf BK158.out 0
       have hfz25_1 := zaf BK158.out 1
       have hfz25_2 := zaf BK158.out 2
       have hfz25_3 := zaf BK158.out 3
       have hfz25_4 := zaf BK158.out 4
       have hfz25_5 := zaf BK158.out 5
       go_wp2_with (first | (go_at_call 58; (refine (zaL.calls kj1 a0_0 _ _ l0_1 _ _ l0_2 a0_3 a0_4 a0_5 a0_0 _ _ l0_1 _ _ ([] : List (S50)) (⟨#[]⟩ : ByteArray) a0_4 a0_5 t161 _ ?side1 ?side2 ?side3 ?side4 ?side5 ?side6 ?side7 ?side8 A22.out).mono ?_); (case side1 => exact Kd.C_below HR0_1.out (by repeat (first | (with_reducible first | exact HB.out | apply zad | apply zab | apply zae | refine zal ?_ GE157.out | refine zal ?_ GE158.out) | exact HB.out))); (case side2 => exact HC0_1.out); (case side3 => exact Kd.C_below HR0_2.out (by repeat (first | (with_reducible first | exact HB.out | apply zad | apply zab | apply zae | refine zal ?_ GE157.out | refine zal ?_ GE158.out) | exact HB.out))); (case side4 => exact HC0_2.out); (case side5 => exact Kd.C_below HR0_1.out (by repeat (first | (with_reducible first | exact HB.out | apply zad | apply zab | apply zae | refine zal ?_ GE157.out | refine zal ?_ GE158.out) | exact HB.out))); (case side6 => exact HC0_1.out); (case side7 => exact Kd.C_nil _ _); (case side8 => exact Nat.le_refl _); rintro e w26 ⟨rfl, hb⟩; have n0_ := zaa.mk (zan (g := gb157) (o := .cells #[.int .i64 a0_0, .slice A0_1 l0_1.length c0_1, .slice A0_2 l0_2.length c0_2, .string a0_3, .int .i64 a0_4, .int .i64 a0_5] 40 (0, 0)) (by (with_reducible repeat (first | refine zaj ?_ _ | refine zak ?_ | refine zai ?_ _)); refine zaD ?_ NB157_158.out _; (with_reducible repeat (first | refine zaj ?_ _ | refine zak ?_ | refine zai ?_ _)); exact BK157.out) hb); have n1_ := zaa.mk (zan (g := gb158) (o := .cells #[.int .i64 a0_0, .slice A0_1 l0_1.length c0_1, .slice none 0 0, .string (⟨#[]⟩ : ByteArray), .int .i64 a0_4, .int .i64 a0_5] 40 (0, 0)) (by (with_reducible repeat (first | refine zaj ?_ _ | refine zak ?_ | refine zai ?_ _)); refine zaP (cs := #[.int .i64 a0_0, .slice none 0 0, .slice none 0 0, .string (⟨#[]⟩ : ByteArray), .int .i64 a0_4, .int .i64 a0_5]) ?_ 1 _ rfl; (with_reducible repeat (first | refine zaj ?_ _ | refine zak ?_ | refine zai ?_ _)); exact BK158.out) hb); have n2_ := zaa.mk (zam (by repeat (first | (with_reducible first | exact HB.out | apply zad | apply zab | apply zae | refine zal ?_ GE157.out | refine zal ?_ GE158.out) | exact HB.out)) hb); clear BK157; clear BK158; clear HB; have BK157 := n0_; have BK158 := n1_; have HB := n2_; clear n0_ n1_ n2_; (try clear hb); (try clear hb2); (try clear hk); (try clear hi)))
       go_ret
       exact ⟨by first | rfl | (simp [zaw, zav] <;> rfl) | (simp [*, zaw, zav] <;> rfl), by repeat (first | (with_reducible first | exact HB.out | apply zad | apply zab | apply zae | refine zal ?_ GE157.out | refine zal ?_ GE158.out) | exact HB.out)⟩
      ·rw [if_neg c21] at H
       have c21b0 : decide ((l0_1.length : Int) ≤ 16384) = false := decide_eq_false c21
       have c21b1 : decide (l0_1.length ≤ 16384) = false := decide_eq_false (by omega)
       clear c21
       obtain rfl := Option.some.inj H
       have hnb27 := NB157_158.out
       have hnc27 := NB158_157.out
       have hcz28_0 := (zac BK157.out 0).trans rfl
       have hcz28_1 := (zac BK157.out 1).trans rfl
       have hcz28_2 := (zac BK157.out 2).trans rfl
       have hcz28_3 := (zac BK157.out 3).trans rfl
       have hcz28_4 := (zac BK157.out 4).trans rfl
       have hcz28_5 := (zac BK157.out 5).trans rfl
       have hfz28_0 := zaf BK157.out 0
       have hfz28_1 := zaf BK157.out 1
       have hfz28_2 := zaf BK157.out 2
       have hfz28_3 := zaf BK157.out 3
       have hfz28_4 := zaf BK157.out 4
       have hfz28_5 := zaf BK157.out 5
       have hcz29_0 := (zac BK158.out 0).trans rfl
       have hcz29_1 := (zac BK158.out 1).trans rfl
       have hcz29_2 := (zac BK158.out 2).trans rfl
       have hcz29_3 := (zac BK158.out 3).trans rfl
       have hcz29_4 := (zac BK158.out 4).trans rfl
       have hcz29_5 := (zac BK158.out 5).trans rfl
       have hfz29_0 := zaf BK158.out 0
       have hfz29_1 := zaf BK158.out 1
       have hfz29_2 := zaf BK158.out 2
       have hfz29_3 := zaf BK158.out 3
       have hfz29_4 := zaf BK158.out 4
       have hfz29_5 := zaf BK158.out 5
       go_wp2
       repeat (go_quiet (fail); try go_wp2)
       go_ret
       exact ⟨by first | rfl | (simp [zaw, zav] <;> rfl) | (simp [*, zaw, zav] <;> rfl), by repeat (first | (with_reducible first | exact HB.out | apply zad | apply zab | apply zae | refine zal ?_ GE157.out | refine zal ?_ GE158.out) | exact HB.out)⟩
     ·replace c20 := Bool.eq_false_iff.mpr c20
      subst c20
      have H1 : (some false) = some r := by rw [if_neg (show ¬ (false = true) by decide)] at H; exact H
      clear H
      have H := H1
      clear H1
      obtain rfl := Option.some.inj H
      have hnb30 := NB157_158.out
      have hnc30 := NB158_157.out
      have hcz31_0 := (zac BK157.out 0).trans rfl
      have hcz31_1 := (zac BK157.out 1).trans rfl
      have hcz31_2 := (zac BK157.out 2).trans rfl
      have hcz31_3 := (zac BK157.out 3).trans rfl
      have hcz31_4 := (zac BK157.out 4).trans rfl
      have hcz31_5 := (zac BK157.out 5).trans rfl
      have hfz31_0 := zaf BK157.out 0
      have hfz31_1 := zaf BK157.out 1
      have hfz31_2 := zaf BK157.out 2
      have hfz31_3 := zaf BK157.out 3
      have hfz31_4 := zaf BK157.out 4
      have hfz31_5 := zaf BK157.out 5
      have hcz32_0 := (zac BK158.out 0).trans rfl
      have hcz32_1 := (zac BK158.out 1).trans rfl
      have hcz32_2 := (zac BK158.out 2).trans rfl
      have hcz32_3 := (zac BK158.out 3).trans rfl
      have hcz32_4 := (zac BK158.out 4).trans rfl
      have hcz32_5 := (zac BK158.out 5).trans rfl
      have hfz32_0 := zaf BK158.out 0
      have hfz32_1 := zaf BK158.out 1
      have hfz32_2 := zaf BK158.out 2
      have hfz32_3 := zaf BK158.out 3
      have hfz32_4 := zaf BK158.out 4
      have hfz32_5 := zaf BK158.out 5
      go_wp2
      repeat (go_quiet (fail); try go_wp2)
      go_ret
      exact ⟨by first | rfl | (simp [zaw, zav] <;> rfl) | (simp [*, zaw, zav] <;> rfl), by repeat (first | (with_reducible first | exact HB.out | apply zad | apply zab | apply zae | refine zal ?_ GE157.out | refine zal ?_ GE158.out) | exact HB.out)⟩
    ·rw [if_neg c19] at H
     have c19b0 : (a0_0 == 1) = false := beq_eq_false_iff_ne.mpr c19
     have c19b1 : (a0_0 != 1) = true := bne_iff_ne.mpr c19
     by_cases c33 : a0_0 = 2
     ·rw [if_pos c33] at H
      have c33b0 : (a0_0 == 2) = true := beq_iff_eq.mpr c33
      have c33b1 : (a0_0 != 2) = false := bne_eq_false_iff_eq.mpr c33
      clear c33
      have HC34 := zaa.mk H
      clear H
      have hnb35 := NB157_158.out
      have hnc35 := NB158_157.out
      have hcz36_0 := (zac BK157.out 0).trans rfl
      have hcz36_1 := (zac BK157.out 1).trans rfl
      have hcz36_2 := (zac BK157.out 2).trans rfl
      have hcz36_3 := (zac BK157.out 3).trans rfl
      have hcz36_4 := (zac BK157.out 4).trans rfl
      have hcz36_5 := (zac BK157.out 5).trans rfl
      have hfz36_0 := zaf BK157.out 0
      have hfz36_1 := zaf BK157.out 1
      have hfz36_2 := zaf BK157.out 2
      have hfz36_3 := zaf BK157.out 3
      have hfz36_4 := zaf BK157.out 4
      have hfz36_5 := zaf BK157.out 5
      have hcz37_0 := (zac BK158.out 0).trans rfl
      have hcz37_1 := (zac BK158.out 1).trans rfl
      have hcz37_2 := (zac BK158.out 2).trans rfl
      have hcz37_3 := (zac BK158.out 3).trans rfl
      have hcz37_4 := (zac BK158.out 4).trans rfl
      have hcz37_5 := (zac BK158.out 5).trans rfl
      have hfz37_0 := zaf BK158.out 0
      have hfz37_1 := zaf BK158.out 1
      have hfz37_2 := zaf BK158.out 2
      have hfz37_3 := zaf BK158.out 3
      have hfz37_4 := zaf BK158.out 4
      have hfz37_5 := zaf BK158.out 5
      go_upto_region 12 with (fail)
      repeat (go_quiet (fail); go_upto_region 12 with (fail))
      go_cut [4] (fun v4 wc => ∃ (kq : Nat) (x4_33 : Bool), v4 = .bool x4_33 ∧ zaa (zaq.j1 kq x4_33 a0_0 l0_1 l0_2 a0_3 a0_4 a0_5 a0_0 l0_2 (⟨#[]⟩ : ByteArray) a0_4 a0_5 = some r) ∧ zaa (kq ≤ kj1) ∧ zaa (wc.heap[gb157]? = some (.cells #[.int .i64 a0_0, (.slice A0_1 l0_1.length c0_1), (.slice A0_2 l0_2.length c0_2), .string a0_3, .int .i64 a0_4, .int .i64 a0_5] 40 (0, 0))) ∧ zaa (wc.heap[gb158]? = some (.cells #[.int .i64 a0_0, (.slice none 0 0), (.slice A0_2 l0_2.length c0_2), .string (⟨#[]⟩ : ByteArray), .int .i64 a0_4, .int .i64 a0_5] 40 (0, 0))) ∧ zaa (Below w.heap.size w wc))
      case first =>
       have H := HC34.out
       clear HC34
       by_cases c38 : x4_1 = true
       ·subst c38
        have H1 : (zaq.j1 kj1 (decide ((l0_2.length : Int) ≤ 64)) a0_0 l0_1 l0_2 a0_3 a0_4 a0_5 a0_0 l0_2 (⟨#[]⟩ : ByteArray) a0_4 a0_5) = some r := by rw [if_pos rfl] at H; exact H
        clear H
        have H := H1
        clear H1
        have H' := zaa.mk H
        clear H
        have hnb39 := NB157_158.out
        have hnc39 := NB158_157.out
        have hcz40_0 := (zac BK157.out 0).trans rfl
        have hcz40_1 := (zac BK157.out 1).trans rfl
        have hcz40_2 := (zac BK157.out 2).trans rfl
        have hcz40_3 := (zac BK157.out 3).trans rfl
        have hcz40_4 := (zac BK157.out 4).trans rfl
        have hcz40_5 := (zac BK157.out 5).trans rfl
        have hfz40_0 := zaf BK157.out 0
        have hfz40_1 := zaf BK157.out 1
        have hfz40_2 := zaf BK157.out 2
        have hfz40_3 := zaf BK157.out 3
        have hfz40_4 := zaf BK157.out 4
        have hfz40_5 := zaf BK157.out 5
        go_wp2
        repeat (go_quiet (fail); try go_wp2)
        go_meet
        case rel => exact ⟨_, (decide ((l0_2.length : Int) ≤ 64)), (by first | rfl | (simp; done) | (simp [*]; done)), H', ⟨by have := HJ1.out; first | omega | exact Nat.le_refl _⟩, ⟨by (with_reducible repeat (first | refine zaj ?_ _ | refine zak ?_ | refine zai ?_ _)); refine zaD ?_ NB157_158.out _; (with_reducible repeat (first | refine zaj ?_ _ | refine zak ?_ | refine zai ?_ _)); exact BK157.out⟩, ⟨by (with_reducible repeat (first | refine zaj ?_ _ | refine zak ?_ | refine zai ?_ _)); refine zaP (cs := #[.int .i64 a0_0, .slice none 0 0, .slice none 0 0, .string (⟨#[]⟩ : ByteArray), .int .i64 a0_4, .int .i64 a0_5]) ?_ 2 _ rfl; (with_reducible repeat (first | refine zaj ?_ _ | refine zak ?_ | refine zai ?_ _)); exact BK158.out⟩, ⟨by repeat (first | (with_reducible first | exact HB.out | apply zad | apply zab | apply zae | refine zal ?_ GE157.out | refine zal ?_ GE158.out) | exact HB.out)⟩⟩
       ·replace c38 := Bool.eq_false_iff.mpr c38
        subst c38
        have H1 : (zaq.j1 kj1 false a0_0 l0_1 l0_2 a0_3 a0_4 a0_5 a0_0 l0_2 (⟨#[]⟩ : ByteArray) a0_4 a0_5) = some r := by rw [if_neg (show ¬ (false = true) by decide)] at H; exact H
        clear H
        have H := H1
        clear H1
        have H' := zaa.mk H
        clear H
        go_wp2
        repeat (go_quiet (fail); try go_wp2)
        go_meet
        case rel => exact ⟨_, (false), (by first | rfl | (simp; done) | (simp [*]; done)), H', ⟨by have := HJ1.out; first | omega | exact Nat.le_refl _⟩, ⟨by (with_reducible repeat (first | refine zaj ?_ _ | refine zak ?_ | refine zai ?_ _)); refine zaD ?_ NB157_158.out _; (with_reducible repeat (first | refine zaj ?_ _ | refine zak ?_ | refine zai ?_ _)); exact BK157.out⟩, ⟨by (with_reducible repeat (first | refine zaj ?_ _ | refine zak ?_ | refine zai ?_ _)); refine zaP (cs := #[.int .i64 a0_0, .slice none 0 0, .slice none 0 0, .string (⟨#[]⟩ : ByteArray), .int .i64 a0_4, .int .i64 a0_5]) ?_ 2 _ rfl; (with_reducible repeat (first | refine zaj ?_ _ | refine zak ?_ | refine zai ?_ _)); exact BK158.out⟩, ⟨by repeat (first | (with_reducible first | exact HB.out | apply zad | apply zab | apply zae | refine zal ?_ GE157.out | refine zal ?_ GE158.out) | exact HB.out)⟩⟩
      case rest =>
       clear HC34
       try clear c14
       try clear c14b0
       try clear c14b1
       try clear c19
       try clear c19b0
       try clear c19b1
       try clear c33
       try clear c33b0
       try clear c33b1
       try clear hcz36_0
       try clear hcz36_1
       try clear hcz36_2
       try clear hcz36_3
       try clear hcz36_4
       try clear hcz36_5
       try clear hcz37_0
       try clear hcz37_1
       try clear hcz37_2
       try clear hcz37_3
       try clear hcz37_4
       try clear hcz37_5
       try clear hcz4_0
       try clear hcz4_1
       try clear hcz4_2
       try clear hcz4_3
       try clear hcz4_4
       try clear hcz4_5
       try clear hcz7_0
       try clear hcz7_1
       try clear hcz7_2
       try clear hcz7_3
       try clear hcz7_4
       try clear hcz7_5
       try clear hfz36_0
       try clear hfz36_1
       try clear hfz36_2
       try clear hfz36_3
       try clear hfz36_4
       try clear hfz36_5
       try clear hfz37_0
       try clear hfz37_1
       try clear hfz37_2
       try clear hfz37_3
       try clear hfz37_4
       try clear hfz37_5
       try clear hfz4_0
       try clear hfz4_1
       try clear hfz4_2
       try clear hfz4_3
       try clear hfz4_4
       try clear hfz4_5
       try clear hfz7_0
       try clear hfz7_1
       try clear hfz7_2
       try clear hfz7_3
       try clear hfz7_4
       try clear hfz7_5
       obtain ⟨kq, x4_33, rfl, HA, HJ33, BK157, BK158, HB⟩ := hcut
       cases kq with
       | zero => exact absurd HA.out (by simp [zaq.j1])
       | succ kj33 =>
        have H := HA.out
        clear HA
        simp only [zaq.j1] at H
        have H' := zaa.mk H
        clear H
        go_wp2
        repeat (go_quiet (fail); try go_wp2)
        go_loopg [4, 5] kj33 (fun kq v4 v5 w' => ∃ (x4_3 : Bool) (x5_3 : Int), v4 = .bool x4_3 ∧ v5 = .int .i64 x5_3 ∧ zaa (zaq.l0 kq x4_3 x5_3 a0_0 l0_1 l0_2 a0_3 a0_4 a0_5 a0_0 l0_2 (⟨#[]⟩ : ByteArray) a0_4 a0_5 = some r) ∧ zaa (kq ≤ kj33) ∧ zaa (w'.heap[gb157]? = some (.cells #[.int .i64 a0_0, (.slice A0_1 l0_1.length c0_1), (.slice A0_2 l0_2.length c0_2), .string a0_3, .int .i64 a0_4, .int .i64 a0_5] 40 (0, 0))) ∧ zaa (w'.heap[gb158]? = some (.cells #[.int .i64 a0_0, (.slice none 0 0), (.slice A0_2 l0_2.length c0_2), .string (⟨#[]⟩ : ByteArray), .int .i64 a0_4, .int .i64 a0_5] 40 (0, 0))) ∧ zaa (Below w.heap.size w w'))
        case atStart => exact ⟨(x4_33), (0), (by first | rfl | (simp; done) | (simp [*]; done)), (by first | rfl | (simp; done) | (simp [*]; done)), H', ⟨Nat.le_refl _⟩, ⟨by (with_reducible repeat (first | refine zaj ?_ _ | refine zak ?_ | refine zai ?_ _)); exact BK157.out⟩, ⟨by (with_reducible repeat (first | refine zaj ?_ _ | refine zak ?_ | refine zai ?_ _)); exact BK158.out⟩, ⟨by repeat (first | (with_reducible first | exact HB.out | apply zad | apply zab | apply zae | refine zal ?_ GE157.out | refine zal ?_ GE158.out) | exact HB.out)⟩⟩
        case round =>
         clear H'
         try clear c14
         try clear c14b0
         try clear c14b1
         try clear c19
         try clear c19b0
         try clear c19b1
         try clear c33
         try clear c33b0
         try clear c33b1
         try clear hcz36_0
         try clear hcz36_1
         try clear hcz36_2
         try clear hcz36_3
         try clear hcz36_4
         try clear hcz36_5
         try clear hcz37_0
         try clear hcz37_1
         try clear hcz37_2
         try clear hcz37_3
         try clear hcz37_4
         try clear hcz37_5
         try clear hcz4_0
         try clear hcz4_1
         try clear hcz4_2
         try clear hcz4_3
         try clear hcz4_4
         try clear hcz4_5
         try clear hcz7_0
         try clear hcz7_1
         try clear hcz7_2
         try clear hcz7_3
         try clear hcz7_4
         try clear hcz7_5
         try clear hfz36_0
         try clear hfz36_1
         try clear hfz36_2
         try clear hfz36_3
         try clear hfz36_4
         try clear hfz36_5
         try clear hfz37_0
         try clear hfz37_1
         try clear hfz37_2
         try clear hfz37_3
         try clear hfz37_4
         try clear hfz37_5
         try clear hfz4_0
         try clear hfz4_1
         try clear hfz4_2
         try clear hfz4_3
         try clear hfz4_4
         try clear hfz4_5
         try clear hfz7_0
         try clear hfz7_1
         try clear hfz7_2
         try clear hfz7_3
         try clear hfz7_4
         try clear hfz7_5
         obtain ⟨x4_3, x5_3, rfl, rfl, HA, HK3, BK157, BK158, HB⟩ := hrel
         cases gk with
         | zero => exact absurd HA.out (by simp [zaq.l0])
         | succ k3 =>
          have H := HA.out
          clear HA
          simp only [zaq.l0] at H
          by_cases c41 : x5_3 < (l0_2.length : Int)
          ·rw [if_pos c41] at H
           have c41b0 : decide (x5_3 < (l0_2.length : Int)) = true := decide_eq_true c41
           clear c41
           by_cases c42 : x4_3 = true
           ·subst c42
            have H1 : (if 0 ≤ x5_3 then ((zat.f k3 ((zau l0_2 x5_3).f0)).bind fun t163 => (if t163 = 0 then (if x5_3 = 0 then (zaq.l0 k3 true (wrap64 (x5_3 + 1)) a0_0 l0_1 l0_2 a0_3 a0_4 a0_5 a0_0 l0_2 (⟨#[]⟩ : ByteArray) a0_4 a0_5) else (if 0 ≤ (wrap64 (x5_3 - 1)) then (if (wrap64 (x5_3 - 1)) < (l0_2.length : Int) then (zaq.l0 k3 (Op.bytesLess (((zau l0_2 (wrap64 (x5_3 - 1))).f0).toList) (((zau l0_2 x5_3).f0).toList)) (wrap64 (x5_3 + 1)) a0_0 l0_1 l0_2 a0_3 a0_4 a0_5 a0_0 l0_2 (⟨#[]⟩ : ByteArray) a0_4 a0_5) else (none)) else (none))) else (zaq.l0 k3 false (wrap64 (x5_3 + 1)) a0_0 l0_1 l0_2 a0_3 a0_4 a0_5 a0_0 l0_2 (⟨#[]⟩ : ByteArray) a0_4 a0_5))) else (none)) = some r := by rw [if_pos rfl] at H; exact H
            clear H
            have H := H1
            clear H1
            by_cases c43 : 0 ≤ x5_3
            ·rw [if_pos c43] at H
             have c43b0 : decide (0 ≤ x5_3) = true := decide_eq_true c43
             clear c43
             replace H := Option.bind_eq_some_iff.mp H
             obtain ⟨t163, A440, H⟩ := H
             replace H : (if t163 = 0 then (if x5_3 = 0 then (zaq.l0 k3 true (wrap64 (x5_3 + 1)) a0_0 l0_1 l0_2 a0_3 a0_4 a0_5 a0_0 l0_2 (⟨#[]⟩ : ByteArray) a0_4 a0_5) else (if 0 ≤ (wrap64 (x5_3 - 1)) then (if (wrap64 (x5_3 - 1)) < (l0_2.length : Int) then (zaq.l0 k3 (Op.bytesLess (((zau l0_2 (wrap64 (x5_3 - 1))).f0).toList) (((zau l0_2 x5_3).f0).toList)) (wrap64 (x5_3 + 1)) a0_0 l0_1 l0_2 a0_3 a0_4 a0_5 a0_0 l0_2 (⟨#[]⟩ : ByteArray) a0_4 a0_5) else (none)) else (none))) else (zaq.l0 k3 false (wrap64 (x5_3 + 1)) a0_0 l0_1 l0_2 a0_3 a0_4 a0_5 a0_0 l0_2 (⟨#[]⟩ : ByteArray) a0_4 a0_5)) = some r := H
             have A44 := zaa.mk A440
             clear A440
             by_cases c45 : t163 = 0
             ·rw [if_pos c45] at H
              have c45b0 : (t163 == 0) = true := beq_iff_eq.mpr c45
              have c45b1 : (t163 != 0) = false := bne_eq_false_iff_eq.mpr c45
              clear c45
              by_cases c46 : x5_3 = 0
              ·rw [if_pos c46] at H
               have c46b0 : (x5_3 == 0) = true := beq_iff_eq.mpr c46
               have c46b1 : (x5_3 != 0) = false := bne_eq_false_iff_eq.mpr c46
               clear c46
               have H' := zaa.mk H
               clear H
               have hnb47 := NB157_158.out
               have hnc47 := NB158_157.out
               have hcz48_0 := (zac BK157.out 0).trans rfl
               have hcz48_1 := (zac BK157.out 1).trans rfl
               have hcz48_2 := (zac BK157.out 2).trans rfl
               have hcz48_3 := (zac BK157.out 3).trans rfl
               have hcz48_4 := (zac BK157.out 4).trans rfl
               have hcz48_5 := (zac BK157.out 5).trans rfl
               have hfz48_0 := zaf BK157.out 0
               have hfz48_1 := zaf BK157.out 1
               have hfz48_2 := zaf BK157.out 2
               have hfz48_3 := zaf BK157.out 3
               have hfz48_4 := zaf BK157.out 4
               have hfz48_5 := zaf BK157.out 5
               have p162 : 0 ≤ (x5_3 : Int) := of_decide_eq_true (by first | (with_reducible assumption) | assumption)
               have q162 : x5_3 < (l0_2.length : Int) := of_decide_eq_true (by first | (with_reducible assumption) | assumption)
               obtain ⟨ad162, e162, hx162_0, hx162_1⟩ := zb4 HR0_2.out x5_3 p162 q162
               cases e162
               replace hx162_0 := (HB.out.cell (World.block_lt_of_cell? w _ hx162_0)).trans hx162_0
               replace hx162_1 := (HB.out.cell (World.block_lt_of_cell? w _ hx162_1)).trans hx162_1
               replace p162 := eq_true p162
               replace q162 := eq_true q162
               go_wp2_with (first | (go_at_call 52; (with_reducible refine (zat.calls k3 ((zau l0_2 x5_3).f0) t163 _ A44.out).mono ?_); rintro e w' ⟨rfl, ⟨nd, rfl⟩⟩; (try first | exact ⟨rfl, _, World.drewN_drewN _ _ _⟩ | exact ⟨rfl, _, Eq.trans (World.drewN_drewN _ _ _) (congrArg (World.drewN _) (Nat.add_assoc _ _ _))⟩)))
               repeat (go_quiet (first | (go_at_call 52; (with_reducible refine (zat.calls k3 ((zau l0_2 x5_3).f0) t163 _ A44.out).mono ?_); rintro e w' ⟨rfl, ⟨nd, rfl⟩⟩; (try first | exact ⟨rfl, _, World.drewN_drewN _ _ _⟩ | exact ⟨rfl, _, Eq.trans (World.drewN_drewN _ _ _) (congrArg (World.drewN _) (Nat.add_assoc _ _ _))⟩))); try go_wp2_with (first | (go_at_call 52; (with_reducible refine (zat.calls k3 ((zau l0_2 x5_3).f0) t163 _ A44.out).mono ?_); rintro e w' ⟨rfl, ⟨nd, rfl⟩⟩; (try first | exact ⟨rfl, _, World.drewN_drewN _ _ _⟩ | exact ⟨rfl, _, Eq.trans (World.drewN_drewN _ _ _) (congrArg (World.drewN _) (Nat.add_assoc _ _ _))⟩))))
               go_roundg k3
               case measure => have := HJ1.out; have := HJ33.out; have := HK3.out; omega
               case rel => exact ⟨(true), (wrap64 (x5_3 + 1)), (by first | rfl | (simp; done) | (simp [*]; done)), (by first | rfl | (simp; done) | (simp [*]; done)), H', ⟨by have := HJ1.out; have := HJ33.out; have := HK3.out; omega⟩, ⟨by (with_reducible repeat (first | refine zaj ?_ _ | refine zak ?_ | refine zai ?_ _)); exact BK157.out⟩, ⟨by (with_reducible repeat (first | refine zaj ?_ _ | refine zak ?_ | refine zai ?_ _)); exact BK158.out⟩, ⟨by repeat (first | (with_reducible first | exact HB.out | apply zad | apply zab | apply zae | refine zal ?_ GE157.out | refine zal ?_ GE158.out) | exact HB.out)⟩⟩
              ·rw [if_neg c46] at H
               have c46b0 : (x5_3 == 0) = false := beq_eq_false_iff_ne.mpr c46
               have c46b1 : (x5_3 != 0) = true := bne_iff_ne.mpr c46
               obtain ⟨ji49, hji49⟩ : ∃ j_ : Int, (wrap64 (x5_3 - 1)) = j_ := ⟨_, rfl⟩
               replace H : (if 0 ≤ (ji49) then (if (ji49) < (l0_2.length : Int) then (zaq.l0 k3 (Op.bytesLess (((zau l0_2 (ji49)).f0).toList) (((zau l0_2 x5_3).f0).toList)) (wrap64 (x5_3 + 1)) a0_0 l0_1 l0_2 a0_3 a0_4 a0_5 a0_0 l0_2 (⟨#[]⟩ : ByteArray) a0_4 a0_5) else (none)) else (none)) = some r := by first | (rw [hji49] at H; exact H) | (simp only [hji49] at H ⊢; exact H)
               (try rw [hji49] at A44)
               have hji49w : (IntKind.i64.wrap (x5_3 - 1)) = ji49 := (zbo _).trans hji49
               by_cases c50 : 0 ≤ (ji49)
               ·rw [if_pos c50] at H
                have c50b0 : decide (0 ≤ (ji49)) = true := decide_eq_true c50
                clear c50
                by_cases c51 : (ji49) < (l0_2.length : Int)
                ·rw [if_pos c51] at H
                 have c51b0 : decide ((ji49) < (l0_2.length : Int)) = true := decide_eq_true c51
                 clear c51
                 have H' := zaa.mk H
                 clear H
                 have hnb52 := NB157_158.out
                 have hnc52 := NB158_157.out
                 have hcz53_0 := (zac BK157.out 0).trans rfl
                 have hcz53_1 := (zac BK157.out 1).trans rfl
                 have hcz53_2 := (zac BK157.out 2).trans rfl
                 have hcz53_3 := (zac BK157.out 3).trans rfl
                 have hcz53_4 := (zac BK157.out 4).trans rfl
                 have hcz53_5 := (zac BK157.out 5).trans rfl
                 have hfz53_0 := zaf BK157.out 0
                 have hfz53_1 := zaf BK157.out 1
                 have hfz53_2 := zaf BK157.out 2
                 have hfz53_3 := zaf BK157.out 3
                 have hfz53_4 := zaf BK157.out 4
                 have hfz53_5 := zaf BK157.out 5
                 have p162 : 0 ≤ (x5_3 : Int) := of_decide_eq_true (by first | (with_reducible assumption) | assumption)
                 have q162 : x5_3 < (l0_2.length : Int) := of_decide_eq_true (by first | (with_reducible assumption) | assumption)
                 obtain ⟨ad162, e162, hx162_0, hx162_1⟩ := zb4 HR0_2.out x5_3 p162 q162
                 cases e162
                 replace hx162_0 := (HB.out.cell (World.block_lt_of_cell? w _ hx162_0)).trans hx162_0
                 replace hx162_1 := (HB.out.cell (World.block_lt_of_cell? w _ hx162_1)).trans hx162_1
                 replace p162 := eq_true p162
                 replace q162 := eq_true q162
                 go_wp2_with (first | (go_at_call 52; (with_reducible refine (zat.calls k3 ((zau l0_2 x5_3).f0) t163 _ A44.out).mono ?_); rintro e w' ⟨rfl, ⟨nd, rfl⟩⟩; (try first | exact ⟨rfl, _, World.drewN_drewN _ _ _⟩ | exact ⟨rfl, _, Eq.trans (World.drewN_drewN _ _ _) (congrArg (World.drewN _) (Nat.add_assoc _ _ _))⟩); have p164 : 0 ≤ ((ji49) : Int) := of_decide_eq_true (by first | (with_reducible assumption) | assumption); have q164 : (ji49) < (l0_2.length : Int) := of_decide_eq_true (by first | (with_reducible assumption) | assumption); obtain ⟨ad164, e164, hx164_0, hx164_1⟩ := zb4 HR0_2.out (ji49) p164 q164; obtain rfl : ad162 = ad164 := (by injection e164); replace hx164_0 := (HB.out.cell (World.block_lt_of_cell? w _ hx164_0)).trans hx164_0; replace hx164_1 := (HB.out.cell (World.block_lt_of_cell? w _ hx164_1)).trans hx164_1; replace p164 := eq_true p164; replace q164 := eq_true q164; have p165 : 0 ≤ (x5_3 : Int) := of_decide_eq_true (by first | (with_reducible assumption) | assumption); have q165 : x5_3 < (l0_2.length : Int) := of_decide_eq_true (by first | (with_reducible assumption) | assumption); obtain ⟨ad165, e165, hx165_0, hx165_1⟩ := zb4 HR0_2.out x5_3 p165 q165; obtain rfl : ad162 = ad165 := (by injection e165); replace hx165_0 := (HB.out.cell (World.block_lt_of_cell? w _ hx165_0)).trans hx165_0; replace hx165_1 := (HB.out.cell (World.block_lt_of_cell? w _ hx165_1)).trans hx165_1; replace p165 := eq_true p165; replace q165 := eq_true q165))
                 repeat (go_quiet (first | (go_at_call 52; (with_reducible refine (zat.calls k3 ((zau l0_2 x5_3).f0) t163 _ A44.out).mono ?_); rintro e w' ⟨rfl, ⟨nd, rfl⟩⟩; (try first | exact ⟨rfl, _, World.drewN_drewN _ _ _⟩ | exact ⟨rfl, _, Eq.trans (World.drewN_drewN _ _ _) (congrArg (World.drewN _) (Nat.add_assoc _ _ _))⟩); have p164 : 0 ≤ ((ji49) : Int) := of_decide_eq_true (by first | (with_reducible assumption) | assumption); have q164 : (ji49) < (l0_2.length : Int) := of_decide_eq_true (by first | (with_reducible assumption) | assumption); obtain ⟨ad164, e164, hx164_0, hx164_1⟩ := zb4 HR0_2.out (ji49) p164 q164; obtain rfl : ad162 = ad164 := (by injection e164); replace hx164_0 := (HB.out.cell (World.block_lt_of_cell? w _ hx164_0)).trans hx164_0; replace hx164_1 := (HB.out.cell (World.block_lt_of_cell? w _ hx164_1)).trans hx164_1; replace p164 := eq_true p164; replace q164 := eq_true q164; have p165 : 0 ≤ (x5_3 : Int) := of_decide_eq_true (by first | (with_reducible assumption) | assumption); have q165 : x5_3 < (l0_2.length : Int) := of_decide_eq_true (by first | (with_reducible assumption) | assumption); obtain ⟨ad165, e165, hx165_0, hx165_1⟩ := zb4 HR0_2.out x5_3 p165 q165; obtain rfl : ad162 = ad165 := (by injection e165); replace hx165_0 := (HB.out.cell (World.block_lt_of_cell? w _ hx165_0)).trans hx165_0; replace hx165_1 := (HB.out.cell (World.block_lt_of_cell? w _ hx165_1)).trans hx165_1; replace p165 := eq_true p165; replace q165 := eq_true q165)); try go_wp2_with (first | (go_at_call 52; (with_reducible refine (zat.calls k3 ((zau l0_2 x5_3).f0) t163 _ A44.out).mono ?_); rintro e w' ⟨rfl, ⟨nd, rfl⟩⟩; (try first | exact ⟨rfl, _, World.drewN_drewN _ _ _⟩ | exact ⟨rfl, _, Eq.trans (World.drewN_drewN _ _ _) (congrArg (World.drewN _) (Nat.add_assoc _ _ _))⟩); have p164 : 0 ≤ ((ji49) : Int) := of_decide_eq_true (by first | (with_reducible assumption) | assumption); have q164 : (ji49) < (l0_2.length : Int) := of_decide_eq_true (by first | (with_reducible assumption) | assumption); obtain ⟨ad164, e164, hx164_0, hx164_1⟩ := zb4 HR0_2.out (ji49) p164 q164; obtain rfl : ad162 = ad164 := (by injection e164); replace hx164_0 := (HB.out.cell (World.block_lt_of_cell? w _ hx164_0)).trans hx164_0; replace hx164_1 := (HB.out.cell (World.block_lt_of_cell? w _ hx164_1)).trans hx164_1; replace p164 := eq_true p164; replace q164 := eq_true q164; have p165 : 0 ≤ (x5_3 : Int) := of_decide_eq_true (by first | (with_reducible assumption) | assumption); have q165 : x5_3 < (l0_2.length : Int) := of_decide_eq_true (by first | (with_reducible assumption) | assumption); obtain ⟨ad165, e165, hx165_0, hx165_1⟩ := zb4 HR0_2.out x5_3 p165 q165; obtain rfl : ad162 = ad165 := (by injection e165); replace hx165_0 := (HB.out.cell (World.block_lt_of_cell? w _ hx165_0)).trans hx165_0; replace hx165_1 := (HB.out.cell (World.block_lt_of_cell? w _ hx165_1)).trans hx165_1; replace p165 := eq_true p165; replace q165 := eq_true q165)))
                 go_roundg k3
                 case measure => have := HJ1.out; have := HJ33.out; have := HK3.out; omega
                 case rel => exact ⟨((Op.bytesLess (((zau l0_2 (ji49)).f0).toList) (((zau l0_2 x5_3).f0).toList))), (wrap64 (x5_3 + 1)), (by first | rfl | (simp; done) | (simp only [← hji49] <;> (first | rfl | simp)) | (simp [*]; done)), (by first | rfl | (simp; done) | (simp [*]; done)), H', ⟨by have := HJ1.out; have := HJ33.out; have := HK3.out; omega⟩, ⟨by (with_reducible repeat (first | refine zaj ?_ _ | refine zak ?_ | refine zai ?_ _)); exact BK157.out⟩, ⟨by (with_reducible repeat (first | refine zaj ?_ _ | refine zak ?_ | refine zai ?_ _)); exact BK158.out⟩, ⟨by repeat (first | (with_reducible first | exact HB.out | apply zad | apply zab | apply zae | refine zal ?_ GE157.out | refine zal ?_ GE158.out) | exact HB.out)⟩⟩
                ·rw [if_neg c51] at H
                 exact absurd H (by simp)
               ·rw [if_neg c50] at H
                exact absurd H (by simp)
             ·rw [if_neg c45] at H
              have c45b0 : (t163 == 0) = false := beq_eq_false_iff_ne.mpr c45
              have c45b1 : (t163 != 0) = true := bne_iff_ne.mpr c45
              have H' := zaa.mk H
              clear H
              have hnb54 := NB157_158.out
              have hnc54 := NB158_157.out
              have hcz55_0 := (zac BK157.out 0).trans rfl
              have hcz55_1 := (zac BK157.out 1).trans rfl
              have hcz55_2 := (zac BK157.out 2).trans rfl
              have hcz55_3 := (zac BK157.out 3).trans rfl
              have hcz55_4 := (zac BK157.out 4).trans rfl
              have hcz55_5 := (zac BK157.out 5).trans rfl
              have hfz55_0 := zaf BK157.out 0
              have hfz55_1 := zaf BK157.out 1
              have hfz55_2 := zaf BK157.out 2
              have hfz55_3 := zaf BK157.out 3
              have hfz55_4 := zaf BK157.out 4
              have hfz55_5 := zaf BK157.out 5
              have p162 : 0 ≤ (x5_3 : Int) := of_decide_eq_true (by first | (with_reducible assumption) | assumption)
              have q162 : x5_3 < (l0_2.length : Int) := of_decide_eq_true (by first | (with_reducible assumption) | assumption)
              obtain ⟨ad162, e162, hx162_0, hx162_1⟩ := zb4 HR0_2.out x5_3 p162 q162
              cases e162
              replace hx162_0 := (HB.out.cell (World.block_lt_of_cell? w _ hx162_0)).trans hx162_0
              replace hx162_1 := (HB.out.cell (World.block_lt_of_cell? w _ hx162_1)).trans hx162_1
              replace p162 := eq_true p162
              replace q162 := eq_true q162
              go_wp2_with (first | (go_at_call 52; (with_reducible refine (zat.calls k3 ((zau l0_2 x5_3).f0) t163 _ A44.out).mono ?_); rintro e w' ⟨rfl, ⟨nd, rfl⟩⟩; (try first | exact ⟨rfl, _, World.drewN_drewN _ _ _⟩ | exact ⟨rfl, _, Eq.trans (World.drewN_drewN _ _ _) (congrArg (World.drewN _) (Nat.add_assoc _ _ _))⟩)))
              repeat (go_quiet (first | (go_at_call 52; (with_reducible refine (zat.calls k3 ((zau l0_2 x5_3).f0) t163 _ A44.out).mono ?_); rintro e w' ⟨rfl, ⟨nd, rfl⟩⟩; (try first | exact ⟨rfl, _, World.drewN_drewN _ _ _⟩ | exact ⟨rfl, _, Eq.trans (World.drewN_drewN _ _ _) (congrArg (World.drewN _) (Nat.add_assoc _ _ _))⟩))); try go_wp2_with (first | (go_at_call 52; (with_reducible refine (zat.calls k3 ((zau l0_2 x5_3).f0) t163 _ A44.out).mono ?_); rintro e w' ⟨rfl, ⟨nd, rfl⟩⟩; (try first | exact ⟨rfl, _, World.drewN_drewN _ _ _⟩ | exact ⟨rfl, _, Eq.trans (World.drewN_drewN _ _ _) (congrArg (World.drewN _) (Nat.add_assoc _ _ _))⟩))))
              go_roundg k3
              case measure => have := HJ1.out; have := HJ33.out; have := HK3.out; omega
              case rel => exact ⟨(false), (wrap64 (x5_3 + 1)), (by first | rfl | (simp; done) | (simp [*]; done)), (by first | rfl | (simp; done) | (simp [*]; done)), H', ⟨by have := HJ1.out; have := HJ33.out; have := HK3.out; omega⟩, ⟨by (with_reducible repeat (first | refine zaj ?_ _ | refine zak ?_ | refine zai ?_ _)); exact BK157.out⟩, ⟨by (with_reducible repeat (first | refine zaj ?_ _ | refine zak ?_ | refine zai ?_ _)); exact BK158.out⟩, ⟨by repeat (first | (with_reducible first | exact HB.out | apply zad | apply zab | apply zae | refine zal ?_ GE157.out | refine zal ?_ GE158.out) | exact HB.out)⟩⟩
            ·rw [if_neg c43] at H
             exact absurd H (by simp)
           ·replace c42 := Bool.eq_false_iff.mpr c42
            subst c42
            have H1 : (some false) = some r := by rw [if_neg (show ¬ (false = true) by decide)] at H; exact H
            clear H
            have H := H1
            clear H1
            obtain rfl := Option.some.inj H
            have hnb56 := NB157_158.out
            have hnc56 := NB158_157.out
            have hcz57_0 := (zac BK157.out 0).trans rfl
            have hcz57_1 := (zac BK157.out 1).trans rfl
            have hcz57_2 := (zac BK157.out 2).trans rfl
            have hcz57_3 := (zac BK157.out 3).trans rfl
            have hcz57_4 := (zac BK157.out 4).trans rfl
            have hcz57_5 := (zac BK157.out 5).trans rfl
            have hfz57_0 := zaf BK157.out 0
            have hfz57_1 := zaf BK157.out 1
            have hfz57_2 := zaf BK157.out 2
            have hfz57_3 := zaf BK157.out 3
            have hfz57_4 := zaf BK157.out 4
            have hfz57_5 := zaf BK157.out 5
            go_wp2
            repeat (go_quiet (fail); try go_wp2)
            go_ret
            exact ⟨by first | rfl | (simp [zaw, zav] <;> rfl) | (simp [*, zaw, zav] <;> rfl), by repeat (first | (with_reducible first | exact HB.out | apply zad | apply zab | apply zae | refine zal ?_ GE157.out | refine zal ?_ GE158.out) | exact HB.out)⟩
          ·rw [if_neg c41] at H
           have c41b0 : decide (x5_3 < (l0_2.length : Int)) = false := decide_eq_false c41
           clear c41
           by_cases c58 : x4_3 = true
           ·subst c58
            have H1 : ((zaL.f k3 a0_0 l0_1 l0_2 a0_3 a0_4 a0_5 a0_0 ([] : List Int) l0_2 (⟨#[]⟩ : ByteArray) a0_4 a0_5).bind fun t166 => (some t166)) = some r := by rw [if_pos rfl] at H; exact H
            clear H
            have H := H1
            clear H1
            replace H := Option.bind_eq_some_iff.mp H
            obtain ⟨t166, A590, H⟩ := H
            replace H : (some t166) = some r := H
            have A59 := zaa.mk A590
            clear A590
            obtain rfl := Option.some.inj H
            have hnb60 := NB157_158.out
            have hnc60 := NB158_157.out
            have hcz61_0 := (zac BK157.out 0).trans rfl
            have hcz61_1 := (zac BK157.out 1).trans rfl
            have hcz61_2 := (zac BK157.out 2).trans rfl
            have hcz61_3 := (zac BK157.out 3).trans rfl
            have hcz61_4 := (zac BK157.out 4).trans rfl
            have hcz61_5 := (zac BK157.out 5).trans rfl
            have hfz61_0 := zaf BK157.out 0
            have hfz61_1 := zaf BK157.out 1
            have hfz61_2 := zaf BK157.out 2
            have hfz61_3 := zaf BK157.out 3
            have hfz61_4 := zaf BK157.out 4
            have hfz61_5 := zaf BK157.out 5
            have hcz62_0 := (zac BK158.out 0).trans rfl
            have hcz62_1 := (zac BK158.out 1).trans rfl
            have hcz62_2 := (zac BK158.out 2).trans rfl
            have hcz62_3 := (zac BK158.out 3).trans rfl
            have hcz62_4 := (zac BK158.out 4).trans rfl
            have hcz62_5 := (zac BK158.out 5).trans rfl
            have hfz62_0 := zaf BK158.out 0
            have hfz62_1 := zaf BK158.out 1
            have hfz62_2 := zaf BK158.out 2
            have hfz62_3 := zaf BK158.out 3
            have hfz62_4 := zaf BK158.out 4
            have hfz62_5 := zaf BK158.out 5
            go_wp2_with (first | (go_at_call 58; (refine (zaL.calls k3 a0_0 _ _ l0_1 _ _ l0_2 a0_3 a0_4 a0_5 a0_0 _ _ ([] : List Int) _ _ l0_2 (⟨#[]⟩ : ByteArray) a0_4 a0_5 t166 _ ?side1 ?side2 ?side3 ?side4 ?side5 ?side6 ?side7 ?side8 A59.out).mono ?_); (case side1 => repeat (first | exact (Kd.C_below HR0_1.out HB.out) | (with_reducible refine Kd.C_alloc ?_ _) | (with_reducible refine Kd.C_drewN ?_ _) | (with_reducible refine Kd.C_drew ?_))); (case side2 => exact HC0_1.out); (case side3 => repeat (first | exact (Kd.C_below HR0_2.out HB.out) | (with_reducible refine Kd.C_alloc ?_ _) | (with_reducible refine Kd.C_drewN ?_ _) | (with_reducible refine Kd.C_drew ?_))); (case side4 => exact HC0_2.out); (case side5 => exact Kd.C_nil _ _); (case side6 => exact Nat.le_refl _); (case side7 => repeat (first | exact (Kd.C_below HR0_2.out HB.out) | (with_reducible refine Kd.C_alloc ?_ _) | (with_reducible refine Kd.C_drewN ?_ _) | (with_reducible refine Kd.C_drew ?_))); (case side8 => exact HC0_2.out); rintro e w63 ⟨rfl, hb⟩; have n0_ := zaa.mk (zan (g := gb157) (o := .cells #[.int .i64 a0_0, .slice A0_1 l0_1.length c0_1, .slice A0_2 l0_2.length c0_2, .string a0_3, .int .i64 a0_4, .int .i64 a0_5] 40 (0, 0)) (by (with_reducible repeat (first | refine zaj ?_ _ | refine zak ?_ | refine zai ?_ _)); exact BK157.out) hb); have n1_ := zaa.mk (zan (g := gb158) (o := .cells #[.int .i64 a0_0, .slice none 0 0, .slice A0_2 l0_2.length c0_2, .string (⟨#[]⟩ : ByteArray), .int .i64 a0_4, .int .i64 a0_5] 40 (0, 0)) (by (with_reducible repeat (first | refine zaj ?_ _ | refine zak ?_ | refine zai ?_ _)); exact BK158.out) hb); have n2_ := zaa.mk (zam (by repeat (first | (with_reducible first | exact HB.out | apply zad | apply zab | apply zae | refine zal ?_ GE157.out | refine zal ?_ GE158.out) | exact HB.out)) hb); clear BK157; clear BK158; clear HB; have BK157 := n0_; have BK158 := n1_; have HB := n2_; clear n0_ n1_ n2_; (try clear hb); (try clear hb2); (try clear hk); (try clear hi)))
            go_ret
            exact ⟨by first | rfl | (simp [zaw, zav] <;> rfl) | (simp [*, zaw, zav] <;> rfl), by repeat (first | (with_reducible first | exact HB.out | apply zad | apply zab | apply zae | refine zal ?_ GE157.out | refine zal ?_ GE158.out) | exact HB.out)⟩
           ·replace c58 := Bool.eq_false_iff.mpr c58
            subst c58
            have H1 : (some false) = some r := by rw [if_neg (show ¬ (false = true) by decide)] at H; exact H
            clear H
            have H := H1
            clear H1
            obtain rfl := Option.some.inj H
            have hnb64 := NB157_158.out
            have hnc64 := NB158_157.out
            have hcz65_0 := (zac BK157.out 0).trans rfl
            have hcz65_1 := (zac BK157.out 1).trans rfl
            have hcz65_2 := (zac BK157.out 2).trans rfl
            have hcz65_3 := (zac BK157.out 3).trans rfl
            have hcz65_4 := (zac BK157.out 4).trans rfl
            have hcz65_5 := (zac BK157.out 5).trans rfl
            have hfz65_0 := zaf BK157.out 0
            have hfz65_1 := zaf BK157.out 1
            have hfz65_2 := zaf BK157.out 2
            have hfz65_3 := zaf BK157.out 3
            have hfz65_4 := zaf BK157.out 4
            have hfz65_5 := zaf BK157.out 5
            go_wp2
            repeat (go_quiet (fail); try go_wp2)
            go_ret
            exact ⟨by first | rfl | (simp [zaw, zav] <;> rfl) | (simp [*, zaw, zav] <;> rfl), by repeat (first | (with_reducible first | exact HB.out | apply zad | apply zab | apply zae | refine zal ?_ GE157.out | refine zal ?_ GE158.out) | exact HB.out)⟩
     ·rw [if_neg c33] at H
      have c33b0 : (a0_0 == 2) = false := beq_eq_false_iff_ne.mpr c33
      have c33b1 : (a0_0 != 2) = true := bne_iff_ne.mpr c33
      by_cases c66 : a0_0 = 3
      ·rw [if_pos c66] at H
       have c66b0 : (a0_0 == 3) = true := beq_iff_eq.mpr c66
       have c66b1 : (a0_0 != 3) = false := bne_eq_false_iff_eq.mpr c66
       clear c66
       by_cases c67 : x4_1 = true
       ·subst c67
        have H1 : (if (a0_3.size : Int) ≥ 1 then (if (a0_3.size : Int) ≤ 512 then ((zaN.f kj1 a0_3).bind fun t167 => (if t167 = true then (some false) else ((zaL.f kj1 a0_0 l0_1 l0_2 a0_3 a0_4 a0_5 a0_0 ([] : List Int) ([] : List (S50)) a0_3 a0_4 a0_5).bind fun t168 => (some t168)))) else (some false)) else (some false)) = some r := by rw [if_pos rfl] at H; exact H
        clear H
        have H := H1
        clear H1
        by_cases c68 : (a0_3.size : Int) ≥ 1
        ·rw [if_pos c68] at H
         have c68b0 : decide (1 ≤ (a0_3.size : Int)) = true := decide_eq_true c68
         have c68b1 : decide (1 ≤ a0_3.size) = true := decide_eq_true (by omega)
         clear c68
         by_cases c69 : (a0_3.size : Int) ≤ 512
         ·rw [if_pos c69] at H
          have c69b0 : decide ((a0_3.size : Int) ≤ 512) = true := decide_eq_true c69
          have c69b1 : decide (a0_3.size ≤ 512) = true := decide_eq_true (by omega)
          clear c69
          replace H := Option.bind_eq_some_iff.mp H
          obtain ⟨t167, A700, H⟩ := H
          replace H : (if t167 = true then (some false) else ((zaL.f kj1 a0_0 l0_1 l0_2 a0_3 a0_4 a0_5 a0_0 ([] : List Int) ([] : List (S50)) a0_3 a0_4 a0_5).bind fun t168 => (some t168))) = some r := H
          have A70 := zaa.mk A700
          clear A700
          by_cases c71 : t167 = true
          ·subst c71
           have H1 : (some false) = some r := by rw [if_pos rfl] at H; exact H
           clear H
           have H := H1
           clear H1
           obtain rfl := Option.some.inj H
           have hnb72 := NB157_158.out
           have hnc72 := NB158_157.out
           have hcz73_0 := (zac BK157.out 0).trans rfl
           have hcz73_1 := (zac BK157.out 1).trans rfl
           have hcz73_2 := (zac BK157.out 2).trans rfl
           have hcz73_3 := (zac BK157.out 3).trans rfl
           have hcz73_4 := (zac BK157.out 4).trans rfl
           have hcz73_5 := (zac BK157.out 5).trans rfl
           have hfz73_0 := zaf BK157.out 0
           have hfz73_1 := zaf BK157.out 1
           have hfz73_2 := zaf BK157.out 2
           have hfz73_3 := zaf BK157.out 3
           have hfz73_4 := zaf BK157.out 4
           have hfz73_5 := zaf BK157.out 5
           have hcz74_0 := (zac BK158.out 0).trans rfl
           have hcz74_1 := (zac BK158.out 1).trans rfl
           have hcz74_2 := (zac BK158.out 2).trans rfl
           have hcz74_3 := (zac BK158.out 3).trans rfl
           have hcz74_4 := (zac BK158.out 4).trans rfl
           have hcz74_5 := (zac BK158.out 5).trans rfl
           have hfz74_0 := zaf BK158.out 0
           have hfz74_1 := zaf BK158.out 1
           have hfz74_2 := zaf BK158.out 2
           have hfz74_3 := zaf BK158.out 3
           have hfz74_4 := zaf BK158.out 4
           have hfz74_5 := zaf BK158.out 5
           go_wp2_with (first | (go_at_call 59; (with_reducible refine (zaN.calls kj1 a0_3 true _ A70.out).mono ?_); rintro e w' ⟨rfl, ⟨nd, rfl⟩⟩; (try first | exact ⟨rfl, _, World.drewN_drewN _ _ _⟩ | exact ⟨rfl, _, Eq.trans (World.drewN_drewN _ _ _) (congrArg (World.drewN _) (Nat.add_assoc _ _ _))⟩)))
           repeat (go_quiet (first | (go_at_call 59; (with_reducible refine (zaN.calls kj1 a0_3 true _ A70.out).mono ?_); rintro e w' ⟨rfl, ⟨nd, rfl⟩⟩; (try first | exact ⟨rfl, _, World.drewN_drewN _ _ _⟩ | exact ⟨rfl, _, Eq.trans (World.drewN_drewN _ _ _) (congrArg (World.drewN _) (Nat.add_assoc _ _ _))⟩))); try go_wp2_with (first | (go_at_call 59; (with_reducible refine (zaN.calls kj1 a0_3 true _ A70.out).mono ?_); rintro e w' ⟨rfl, ⟨nd, rfl⟩⟩; (try first | exact ⟨rfl, _, World.drewN_drewN _ _ _⟩ | exact ⟨rfl, _, Eq.trans (World.drewN_drewN _ _ _) (congrArg (World.drewN _) (Nat.add_assoc _ _ _))⟩))))
           go_ret
           exact ⟨by first | rfl | (simp [zaw, zav] <;> rfl) | (simp [*, zaw, zav] <;> rfl), by repeat (first | (with_reducible first | exact HB.out | apply zad | apply zab | apply zae | refine zal ?_ GE157.out | refine zal ?_ GE158.out) | exact HB.out)⟩
          ·replace c71 := Bool.eq_false_iff.mpr c71
           subst c71
           have H1 : ((zaL.f kj1 a0_0 l0_1 l0_2 a0_3 a0_4 a0_5 a0_0 ([] : List Int) ([] : List (S50)) a0_3 a0_4 a0_5).bind fun t168 => (some t168)) = some r := by rw [if_neg (show ¬ (false = true) by decide)] at H; exact H
           clear H
           have H := H1
           clear H1
           replace H := Option.bind_eq_some_iff.mp H
           obtain ⟨t168, A750, H⟩ := H
           replace H : (some t168) = some r := H
           have A75 := zaa.mk A750
           clear A750
           obtain rfl := Option.some.inj H
           have hnb76 := NB157_158.out
           have hnc76 := NB158_157.out
           have hcz77_0 := (zac BK157.out 0).trans rfl
           have hcz77_1 := (zac BK157.out 1).trans rfl
           have hcz77_2 := (zac BK157.out 2).trans rfl
           have hcz77_3 := (zac BK157.out 3).trans rfl
           have hcz77_4 := (zac BK157.out 4).trans rfl
           have hcz77_5 := (zac BK157.out 5).trans rfl
           have hfz77_0 := zaf BK157.out 0
           have hfz77_1 := zaf BK157.out 1
           have hfz77_2 := zaf BK157.out 2
           have hfz77_3 := zaf BK157.out 3
           have hfz77_4 := zaf BK157.out 4
           have hfz77_5 := zaf BK157.out 5
           have hcz78_0 := (zac BK158.out 0).trans rfl
           have hcz78_1 := (zac BK158.out 1).trans rfl
           have hcz78_2 := (zac BK158.out 2).trans rfl
           have hcz78_3 := (zac BK158.out 3).trans rfl
           have hcz78_4 := (zac BK158.out 4).trans rfl
           have hcz78_5 := (zac BK158.out 5).trans rfl
           have hfz78_0 := zaf BK158.out 0
           have hfz78_1 := zaf BK158.out 1
           have hfz78_2 := zaf BK158.out 2
           have hfz78_3 := zaf BK158.out 3
           have hfz78_4 := zaf BK158.out 4
           have hfz78_5 := zaf BK158.out 5
           go_wp2_with (first | (go_at_call 59; (with_reducible refine (zaN.calls kj1 a0_3 false _ A70.out).mono ?_); rintro e w' ⟨rfl, ⟨nd, rfl⟩⟩; (try first | exact ⟨rfl, _, World.drewN_drewN _ _ _⟩ | exact ⟨rfl, _, Eq.trans (World.drewN_drewN _ _ _) (congrArg (World.drewN _) (Nat.add_assoc _ _ _))⟩)) | (go_at_call 58; (refine (zaL.calls kj1 a0_0 _ _ l0_1 _ _ l0_2 a0_3 a0_4 a0_5 a0_0 _ _ ([] : List Int) _ _ ([] : List (S50)) a0_3 a0_4 a0_5 t168 _ ?side1 ?side2 ?side3 ?side4 ?side5 ?side6 ?side7 ?side8 A75.out).mono ?_); (case side1 => exact Kd.C_below HR0_1.out (by repeat (first | (with_reducible first | exact HB.out | apply zad | apply zab | apply zae | refine zal ?_ GE157.out | refine zal ?_ GE158.out) | exact HB.out))); (case side2 => exact HC0_1.out); (case side3 => exact Kd.C_below HR0_2.out (by repeat (first | (with_reducible first | exact HB.out | apply zad | apply zab | apply zae | refine zal ?_ GE157.out | refine zal ?_ GE158.out) | exact HB.out))); (case side4 => exact HC0_2.out); (case side5 => exact Kd.C_nil _ _); (case side6 => exact Nat.le_refl _); (case side7 => exact Kd.C_nil _ _); (case side8 => exact Nat.le_refl _); rintro e w79 ⟨rfl, hb⟩; have n0_ := zaa.mk (zan (g := gb157) (o := .cells #[.int .i64 a0_0, .slice A0_1 l0_1.length c0_1, .slice A0_2 l0_2.length c0_2, .string a0_3, .int .i64 a0_4, .int .i64 a0_5] 40 (0, 0)) (by (with_reducible repeat (first | refine zaj ?_ _ | refine zak ?_ | refine zai ?_ _)); refine zaD ?_ NB157_158.out _; (with_reducible repeat (first | refine zaj ?_ _ | refine zak ?_ | refine zai ?_ _)); exact BK157.out) hb); have n1_ := zaa.mk (zan (g := gb158) (o := .cells #[.int .i64 a0_0, .slice none 0 0, .slice none 0 0, .string a0_3, .int .i64 a0_4, .int .i64 a0_5] 40 (0, 0)) (by (with_reducible repeat (first | refine zaj ?_ _ | refine zak ?_ | refine zai ?_ _)); refine zaP (cs := #[.int .i64 a0_0, .slice none 0 0, .slice none 0 0, .string (⟨#[]⟩ : ByteArray), .int .i64 a0_4, .int .i64 a0_5]) ?_ 3 _ rfl; (with_reducible repeat (first | refine zaj ?_ _ | refine zak ?_ | refine zai ?_ _)); exact BK158.out) hb); have n2_ := zaa.mk (zam (by repeat (first | (with_reducible first | exact HB.out | apply zad | apply zab | apply zae | refine zal ?_ GE157.out | refine zal ?_ GE158.out) | exact HB.out)) hb); clear BK157; clear BK158; clear HB; have BK157 := n0_; have BK158 := n1_; have HB := n2_; clear n0_ n1_ n2_; (try clear hb); (try clear hb2); (try clear hk); (try clear hi)))
           go_ret
           exact ⟨by first | rfl | (simp [zaw, zav] <;> rfl) | (simp [*, zaw, zav] <;> rfl), by repeat (first | (with_reducible first | exact HB.out | apply zad | apply zab | apply zae | refine zal ?_ GE157.out | refine zal ?_ GE158.out) | exact HB.out)⟩
         ·rw [if_neg c69] at H
          have c69b0 : decide ((a0_3.size : Int) ≤ 512) = false := decide_eq_false c69
          have c69b1 : decide (a0_3.size ≤ 512) = false := decide_eq_false (by omega)
          clear c69
          obtain rfl := Option.some.inj H
          have hnb80 := NB157_158.out
          have hnc80 := NB158_157.out
          have hcz81_0 := (zac BK157.out 0).trans rfl
          have hcz81_1 := (zac BK157.out 1).trans rfl
          have hcz81_2 := (zac BK157.out 2).trans rfl
          have hcz81_3 := (zac BK157.out 3).trans rfl
          have hcz81_4 := (zac BK157.out 4).trans rfl
          have hcz81_5 := (zac BK157.out 5).trans rfl
          have hfz81_0 := zaf BK157.out 0
          have hfz81_1 := zaf BK157.out 1
          have hfz81_2 := zaf BK157.out 2
          have hfz81_3 := zaf BK157.out 3
          have hfz81_4 := zaf BK157.out 4
          have hfz81_5 := zaf BK157.out 5
          have hcz82_0 := (zac BK158.out 0).trans rfl
          have hcz82_1 := (zac BK158.out 1).trans rfl
          have hcz82_2 := (zac BK158.out 2).trans rfl
          have hcz82_3 := (zac BK158.out 3).trans rfl
          have hcz82_4 := (zac BK158.out 4).trans rfl
          have hcz82_5 := (zac BK158.out 5).trans rfl
          have hfz82_0 := zaf BK158.out 0
          have hfz82_1 := zaf BK158.out 1
          have hfz82_2 := zaf BK158.out 2
          have hfz82_3 := zaf BK158.out 3
          have hfz82_4 := zaf BK158.out 4
          have hfz82_5 := zaf BK158.out 5
          go_wp2
          repeat (go_quiet (fail); try go_wp2)
          go_ret
          exact ⟨by first | rfl | (simp [zaw, zav] <;> rfl) | (simp [*, zaw, zav] <;> rfl), by repeat (first | (with_reducible first | exact HB.out | apply zad | apply zab | apply zae | refine zal ?_ GE157.out | refine zal ?_ GE158.out) | exact HB.out)⟩
        ·rw [if_neg c68] at H
         have c68b0 : decide (1 ≤ (a0_3.size : Int)) = false := decide_eq_false c68
         have c68b1 : decide (1 ≤ a0_3.size) = false := decide_eq_false (by omega)
         clear c68
         obtain rfl := Option.some.inj H
         have hnb83 := NB157_158.out
         have hnc83 := NB158_157.out
         have hcz84_0 := (zac BK157.out 0).trans rfl
         have hcz84_1 := (zac BK157.out 1).trans rfl
         have hcz84_2 := (zac BK157.out 2).trans rfl
         have hcz84_3 := (zac BK157.out 3).trans rfl
         have hcz84_4 := (zac BK157.out 4).trans rfl
         have hcz84_5 := (zac BK157.out 5).trans rfl
         have hfz84_0 := zaf BK157.out 0
         have hfz84_1 := zaf BK157.out 1
         have hfz84_2 := zaf BK157.out 2
         have hfz84_3 := zaf BK157.out 3
         have hfz84_4 := zaf BK157.out 4
         have hfz84_5 := zaf BK157.out 5
         have hcz85_0 := (zac BK158.out 0).trans rfl
         have hcz85_1 := (zac BK158.out 1).trans rfl
         have hcz85_2 := (zac BK158.out 2).trans rfl
         have hcz85_3 := (zac BK158.out 3).trans rfl
         have hcz85_4 := (zac BK158.out 4).trans rfl
         have hcz85_5 := (zac BK158.out 5).trans rfl
         have hfz85_0 := zaf BK158.out 0
         have hfz85_1 := zaf BK158.out 1
         have hfz85_2 := zaf BK158.out 2
         have hfz85_3 := zaf BK158.out 3
         have hfz85_4 := zaf BK158.out 4
         have hfz85_5 := zaf BK158.out 5
         go_wp2
         repeat (go_quiet (fail); try go_wp2)
         go_ret
         exact ⟨by first | rfl | (simp [zaw, zav] <;> rfl) | (simp [*, zaw, zav] <;> rfl), by repeat (first | (with_reducible first | exact HB.out | apply zad | apply zab | apply zae | refine zal ?_ GE157.out | refine zal ?_ GE158.out) | exact HB.out)⟩
       ·replace c67 := Bool.eq_false_iff.mpr c67
        subst c67
        have H1 : (some false) = some r := by rw [if_neg (show ¬ (false = true) by decide)] at H; exact H
        clear H
        have H := H1
        clear H1
        obtain rfl := Option.some.inj H
        have hnb86 := NB157_158.out
        have hnc86 := NB158_157.out
        have hcz87_0 := (zac BK157.out 0).trans rfl
        have hcz87_1 := (zac BK157.out 1).trans rfl
        have hcz87_2 := (zac BK157.out 2).trans rfl
        have hcz87_3 := (zac BK157.out 3).trans rfl
        have hcz87_4 := (zac BK157.out 4).trans rfl
        have hcz87_5 := (zac BK157.out 5).trans rfl
        have hfz87_0 := zaf BK157.out 0
        have hfz87_1 := zaf BK157.out 1
        have hfz87_2 := zaf BK157.out 2
        have hfz87_3 := zaf BK157.out 3
        have hfz87_4 := zaf BK157.out 4
        have hfz87_5 := zaf BK157.out 5
        have hcz88_0 := (zac BK158.out 0).trans rfl
        have hcz88_1 := (zac BK158.out 1).trans rfl
        have hcz88_2 := (zac BK158.out 2).trans rfl
        have hcz88_3 := (zac BK158.out 3).trans rfl
        have hcz88_4 := (zac BK158.out 4).trans rfl
        have hcz88_5 := (zac BK158.out 5).trans rfl
        have hfz88_0 := zaf BK158.out 0
        have hfz88_1 := zaf BK158.out 1
        have hfz88_2 := zaf BK158.out 2
        have hfz88_3 := zaf BK158.out 3
        have hfz88_4 := zaf BK158.out 4
        have hfz88_5 := zaf BK158.out 5
        go_wp2
        repeat (go_quiet (fail); try go_wp2)
        go_ret
        exact ⟨by first | rfl | (simp [zaw, zav] <;> rfl) | (simp [*, zaw, zav] <;> rfl), by repeat (first | (with_reducible first | exact HB.out | apply zad | apply zab | apply zae | refine zal ?_ GE157.out | refine zal ?_ GE158.out) | exact HB.out)⟩
      ·rw [if_neg c66] at H
       have c66b0 : (a0_0 == 3) = false := beq_eq_false_iff_ne.mpr c66
       have c66b1 : (a0_0 != 3) = true := bne_iff_ne.mpr c66
       obtain rfl := Option.some.inj H
       have hnb89 := NB157_158.out
       have hnc89 := NB158_157.out
       have hcz90_0 := (zac BK157.out 0).trans rfl
       have hcz90_1 := (zac BK157.out 1).trans rfl
       have hcz90_2 := (zac BK157.out 2).trans rfl
       have hcz90_3 := (zac BK157.out 3).trans rfl
       have hcz90_4 := (zac BK157.out 4).trans rfl
       have hcz90_5 := (zac BK157.out 5).trans rfl
       have hfz90_0 := zaf BK157.out 0
       have hfz90_1 := zaf BK157.out 1
       have hfz90_2 := zaf BK157.out 2
       have hfz90_3 := zaf BK157.out 3
       have hfz90_4 := zaf BK157.out 4
       have hfz90_5 := zaf BK157.out 5
       go_wp2
       repeat (go_quiet (fail); try go_wp2)
       go_ret
       exact ⟨by first | rfl | (simp [zaw, zav] <;> rfl) | (simp [*, zaw, zav] <;> rfl), by repeat (first | (with_reducible first | exact HB.out | apply zad | apply zab | apply zae | refine zal ?_ GE157.out | refine zal ?_ GE158.out) | exact HB.out)⟩
def zcc.f (a0 : ByteArray) : Option (Bool) := if a0.toList = ([] : List UInt8) then (some false) else (if (a0.size : Int) ≤ 512 then ((strings_IndexByte.f a0 0).bind fun t191 => (some (decide (t191 < 0)))) else (some false))
set_option maxHeartbeats 8000000 in
set_option maxRecDepth 100000 in
theorem zcc.calls (a0 : ByteArray) (r : Bool) (w : World) (h : zcc.f a0 = some r) :
  Calls Tryz.prog 93 #[.string a0] w fun e w' => e = .returned (.bool r) ∧ zaQ w w' := by
 have H : (if a0.toList = ([] : List UInt8) then (some false) else (if (a0.size : Int) ≤ 512 then ((strings_IndexByte.f a0 0).bind fun t191 => (some (decide (t191 < 0)))) else (some false))) = some r := h
 clear h
 by_cases c2 : a0.toList = ([] : List UInt8)
 focus
  rw [if_pos c2] at H
  have c2b0 : (a0.toList == ([] : List UInt8)) = true := beq_iff_eq.mpr c2
  have c2b1 : (a0.toList != ([] : List UInt8)) = false := bne_eq_false_iff_eq.mpr c2
  clear c2
  obtain rfl := Option.some.inj H
 rotate_left 1
 focus
  rw [if_neg c2] at H
  have c2b0 : (a0.toList == ([] : List UInt8)) = false := beq_eq_false_iff_ne.mpr c2
  have c2b1 : (a0.toList != ([] : List UInt8)) = true := bne_iff_ne.mpr c2
  by_cases c3 : (a0.size : Int) ≤ 512
  focus
   rw [if_pos c3] at H
   have c3b0 : decide ((a0.size : Int) ≤ 512) = true := decide_eq_true c3
   have c3b1 : decide (a0.size ≤ 512) = true := decide_eq_true (by omega)
   clear c3
   replace H := Option.bind_eq_some_iff.mp H
   obtain ⟨t191, A40, H⟩ := H
   replace H : (some (decide (t191 < 0))) = some r := H
   have A4 := zaa.mk A40
   clear A40
   obtain rfl := Option.some.inj H
  rotate_left 1
  focus
   rw [if_neg c3] at H
   have c3b0 : decide ((a0.size : Int) ≤ 512) = false := decide_eq_false c3
   have c3b1 : decide (a0.size ≤ 512) = false := decide_eq_false (by omega)
   clear c3
   obtain rfl := Option.some.inj H
 all_goals
  go_enter Tryz.func93, Tryz.ntmps93
  go_wp2_with (first | (go_at_call 87; (with_reducible refine (strings_IndexByte.calls a0 0 _ _ A4.out).mono ?_); rintro e w' ⟨rfl, ⟨nd, rfl⟩⟩))
  go_ret
  exact ⟨by first | rfl | (simp; done) | (simp [*]; done), by repeat (first | exact zaQ.refl _ | apply zaQ.step)⟩
def tree_node.f (l0_0 : List (S40)) (a1_0 : Int) (l1_1 : List Int) (l1_2 : List (S50)) (a1_3 : ByteArray) (a1_4 : Int) (a1_5 : Int) : Option (Bool) := if a1_0 = 0 then (if (wrap64 ((l1_1.length : Int) + (l1_2.length : Int))) = 0 then (if a1_3.toList = ([] : List UInt8) then (if a1_4 = 0 then (some (a1_5 == 0)) else (some false)) else (some false)) else (some false)) else (if a1_0 = 1 then (if (l1_1.length : Int) ≤ 16384 then (if (l1_2.length : Int) = 0 then (if a1_3.toList = ([] : List UInt8) then ((zbh.f a1_5).bind fun t194 => (some t194)) else (some false)) else (some false)) else (some false)) else (if a1_0 = 2 then (if (l1_1.length : Int) = 0 then (if a1_3.toList = ([] : List UInt8) then ((zbh.f a1_5).bind fun t195 => (if t195 = true then ((zco.f l0_0 l1_2).bind fun t196 => (some t196)) else (some false))) else (some false)) else (some false)) else (if a1_0 = 3 then (if (wrap64 ((l1_1.length : Int) + (l1_2.length : Int))) = 0 then ((zcc.f a1_3).bind fun t197 => (if t197 = true then ((zbh.f a1_5).bind fun t198 => (some t198)) else (some false))) else (some false)) else (some false))))
set_option maxHeartbeats 8000000 in
set_option maxRecDepth 100000 in
theorem tree_node.calls (A0_0 : Option Addr) (c0_0 : Nat) (l0_0 : List (S40)) (a1_0 : Int) (A1_1 : Option Addr) (c1_1 : Nat) (l1_1 : List Int) (A1_2 : Option Addr) (c1_2 : Nat) (l1_2 : List (S50)) (a1_3 : ByteArray) (a1_4 : Int) (a1_5 : Int) (r : Bool) (w : World) (hr0_0 : Kd.C k40 w A0_0 l0_0.length l0_0) (hc0_0 : l0_0.length ≤ c0_0) (hr1_1 : Kd.C (Kd.int .u8) w A1_1 l1_1.length l1_1) (hc1_1 : l1_1.length ≤ c1_1) (hr1_2 : Kd.C k50 w A1_2 l1_2.length l1_2) (hc1_2 : l1_2.length ≤ c1_2) (h : tree_node.f l0_0 a1_0 l1_1 l1_2 a1_3 a1_4 a1_5 = some r) :
  Calls Tryz.prog 60 #[.agg #[.slice A0_0 l0_0.length c0_0], .agg #[.int .i64 a1_0, .slice A1_1 l1_1.length c1_1, .slice A1_2 l1_2.length c1_2, .string a1_3, .int .i64 a1_4, .int .i64 a1_5]] w fun e w' => e = .returned (.bool r) ∧ Below w.heap.size w w' := by
 have hu24 := Tryz.underlying24
 have hu40 := Tryz.underlying40
 have HR0_0 := zaa.mk hr0_0
 have HC0_0 := zaa.mk hc0_0
 clear hr0_0 hc0_0
 have HR1_1 := zaa.mk hr1_1
 have HC1_1 := zaa.mk hc1_1
 clear hr1_1 hc1_1
 have HR1_2 := zaa.mk hr1_2
 have HC1_2 := zaa.mk hc1_2
 clear hr1_2 hc1_2
 have HB := zaa.mk (Below.refl w.heap.size w)
 have H : (if a1_0 = 0 then (if (wrap64 ((l1_1.length : Int) + (l1_2.length : Int))) = 0 then (if a1_3.toList = ([] : List UInt8) then (if a1_4 = 0 then (some (a1_5 == 0)) else (some false)) else (some false)) else (some false)) else (if a1_0 = 1 then (if (l1_1.length : Int) ≤ 16384 then (if (l1_2.length : Int) = 0 then (if a1_3.toList = ([] : List UInt8) then ((zbh.f a1_5).bind fun t194 => (some t194)) else (some false)) else (some false)) else (some false)) else (if a1_0 = 2 then (if (l1_1.length : Int) = 0 then (if a1_3.toList = ([] : List UInt8) then ((zbh.f a1_5).bind fun t195 => (if t195 = true then ((zco.f l0_0 l1_2).bind fun t196 => (some t196)) else (some false))) else (some false)) else (some false)) else (if a1_0 = 3 then (if (wrap64 ((l1_1.length : Int) + (l1_2.length : Int))) = 0 then ((zcc.f a1_3).bind fun t197 => (if t197 = true then ((zbh.f a1_5).bind fun t198 => (some t198)) else (some false))) else (some false)) else (some false))))) = some r := h
 clear h
 by_cases c3 : a1_0 = 0
 focus
  rw [if_pos c3] at H
  have c3b0 : (a1_0 == 0) = true := beq_iff_eq.mpr c3
  have c3b1 : (a1_0 != 0) = false := bne_eq_false_iff_eq.mpr c3
  clear c3
  by_cases c4 : (wrap64 ((l1_1.length : Int) + (l1_2.length : Int))) = 0
  focus
   rw [if_pos c4] at H
   have c4b0 : ((wrap64 ((l1_1.length : Int) + (l1_2.length : Int))) == 0) = true := beq_iff_eq.mpr c4
   have c4b1 : ((wrap64 ((l1_1.length : Int) + (l1_2.length : Int))) != 0) = false := bne_eq_false_iff_eq.mpr c4
   clear c4
   by_cases c5 : a1_3.toList = ([] : List UInt8)
   focus
    rw [if_pos c5] at H
    have c5b0 : (a1_3.toList == ([] : List UInt8)) = true := beq_iff_eq.mpr c5
    have c5b1 : (a1_3.toList != ([] : List UInt8)) = false := bne_eq_false_iff_eq.mpr c5
    clear c5
    by_cases c6 : a1_4 = 0
    focus
     rw [if_pos c6] at H
     have c6b0 : (a1_4 == 0) = true := beq_iff_eq.mpr c6
     have c6b1 : (a1_4 != 0) = false := bne_eq_false_iff_eq.mpr c6
     clear c6
     obtain rfl := Option.some.inj H
    rotate_left 1
    focus
     rw [if_neg c6] at H
     have c6b0 : (a1_4 == 0) = false := beq_eq_false_iff_ne.mpr c6
     have c6b1 : (a1_4 != 0) = true := bne_iff_ne.mpr c6
     obtain rfl := Option.some.inj H
   rotate_left 2
   focus
    rw [if_neg c5] at H
    have c5b0 : (a1_3.toList == ([] : List UInt8)) = false := beq_eq_false_iff_ne.mpr c5
    have c5b1 : (a1_3.toList != ([] : List UInt8)) = true := bne_iff_ne.mpr c5
    obtain rfl := Option.some.inj H
  rotate_left 3
  focus
   rw [if_neg c4] at H
   have c4b0 : ((wrap64 ((l1_1.length : Int) + (l1_2.length : Int))) == 0) = false := beq_eq_false_iff_ne.mpr c4
   have c4b1 : ((wrap64 ((l1_1.length : Int) + (l1_2.length : Int))) != 0) = true := bne_iff_ne.mpr c4
   obtain rfl := Option.some.inj H
 rotate_left 4
 focus
  rw [if_neg c3] at H
  have c3b0 : (a1_0 == 0) = false := beq_eq_false_iff_ne.mpr c3
  have c3b1 : (a1_0 != 0) = true := bne_iff_ne.mpr c3
  by_cases c23 : a1_0 = 1
  focus
   rw [if_pos c23] at H
   have c23b0 : (a1_0 == 1) = true := beq_iff_eq.mpr c23
   have c23b1 : (a1_0 != 1) = false := bne_eq_false_iff_eq.mpr c23
   clear c23
   by_cases c24 : (l1_1.length : Int) ≤ 16384
   focus
    rw [if_pos c24] at H
    have c24b0 : decide ((l1_1.length : Int) ≤ 16384) = true := decide_eq_true c24
    have c24b1 : decide (l1_1.length ≤ 16384) = true := decide_eq_true (by omega)
    clear c24
    by_cases c25 : (l1_2.length : Int) = 0
    focus
     rw [if_pos c25] at H
     have c25b0 : ((l1_2.length : Int) == 0) = true := beq_iff_eq.mpr c25
     have c25b1 : ((l1_2.length : Int) != 0) = false := bne_eq_false_iff_eq.mpr c25
     clear c25
     by_cases c26 : a1_3.toList = ([] : List UInt8)
     focus
      rw [if_pos c26] at H
      have c26b0 : (a1_3.toList == ([] : List UInt8)) = true := beq_iff_eq.mpr c26
      have c26b1 : (a1_3.toList != ([] : List UInt8)) = false := bne_eq_false_iff_eq.mpr c26
      clear c26
      replace H := Option.bind_eq_some_iff.mp H
      obtain ⟨t194, A270, H⟩ := H
      replace H : (some t194) = some r := H
      have A27 := zaa.mk A270
      clear A270
      obtain rfl := Option.some.inj H
     rotate_left 1
     focus
      rw [if_neg c26] at H
      have c26b0 : (a1_3.toList == ([] : List UInt8)) = false := beq_eq_false_iff_ne.mpr c26
      have c26b1 : (a1_3.toList != ([] : List UInt8)) = true := bne_iff_ne.mpr c26
      obtain rfl := Option.some.inj H
    rotate_left 2
    focus
     rw [if_neg c25] at H
     have c25b0 : ((l1_2.length : Int) == 0) = false := beq_eq_false_iff_ne.mpr c25
     have c25b1 : ((l1_2.length : Int) != 0) = true := bne_iff_ne.mpr c25
     have c25b2 : ¬ (l1_2 = []) := fun h_ => c25 (by rw [h_]; rfl)
     obtain rfl := Option.some.inj H
   rotate_left 3
   focus
    rw [if_neg c24] at H
    have c24b0 : decide ((l1_1.length : Int) ≤ 16384) = false := decide_eq_false c24
    have c24b1 : decide (l1_1.length ≤ 16384) = false := decide_eq_false (by omega)
    clear c24
    obtain rfl := Option.some.inj H
  rotate_left 4
  focus
   rw [if_neg c23] at H
   have c23b0 : (a1_0 == 1) = false := beq_eq_false_iff_ne.mpr c23
   have c23b1 : (a1_0 != 1) = true := bne_iff_ne.mpr c23
   by_cases c44 : a1_0 = 2
   focus
    rw [if_pos c44] at H
    have c44b0 : (a1_0 == 2) = true := beq_iff_eq.mpr c44
    have c44b1 : (a1_0 != 2) = false := bne_eq_false_iff_eq.mpr c44
    clear c44
    by_cases c45 : (l1_1.length : Int) = 0
    focus
     rw [if_pos c45] at H
     have c45b0 : ((l1_1.length : Int) == 0) = true := beq_iff_eq.mpr c45
     have c45b1 : ((l1_1.length : Int) != 0) = false := bne_eq_false_iff_eq.mpr c45
     clear c45
     by_cases c46 : a1_3.toList = ([] : List UInt8)
     focus
      rw [if_pos c46] at H
      have c46b0 : (a1_3.toList == ([] : List UInt8)) = true := beq_iff_eq.mpr c46
      have c46b1 : (a1_3.toList != ([] : List UInt8)) = false := bne_eq_false_iff_eq.mpr c46
      clear c46
      replace H := Option.bind_eq_some_iff.mp H
      obtain ⟨t195, A470, H⟩ := H
      replace H : (if t195 = true then ((zco.f l0_0 l1_2).bind fun t196 => (some t196)) else (some false)) = some r := H
      have A47 := zaa.mk A470
      clear A470
      by_cases c48 : t195 = true
      focus
       subst c48
       have H1 : ((zco.f l0_0 l1_2).bind fun t196 => (some t196)) = some r := by rw [if_pos rfl] at H; exact H
       clear H
       have H := H1
       clear H1
       replace H := Option.bind_eq_some_iff.mp H
       obtain ⟨t196, A490, H⟩ := H
       replace H : (some t196) = some r := H
       have A49 := zaa.mk A490
       clear A490
       obtain rfl := Option.some.inj H
      rotate_left 1
      focus
       replace c48 := Bool.eq_false_iff.mpr c48
       subst c48
       have H1 : (some false) = some r := by rw [if_neg (show ¬ (false = true) by decide)] at H; exact H
       clear H
       have H := H1
       clear H1
       obtain rfl := Option.some.inj H
     rotate_left 2
     focus
      rw [if_neg c46] at H
      have c46b0 : (a1_3.toList == ([] : List UInt8)) = false := beq_eq_false_iff_ne.mpr c46
      have c46b1 : (a1_3.toList != ([] : List UInt8)) = true := bne_iff_ne.mpr c46
      obtain rfl := Option.some.inj H
    rotate_left 3
    focus
     rw [if_neg c45] at H
     have c45b0 : ((l1_1.length : Int) == 0) = false := beq_eq_false_iff_ne.mpr c45
     have c45b1 : ((l1_1.length : Int) != 0) = true := bne_iff_ne.mpr c45
     have c45b2 : ¬ (l1_1 = []) := fun h_ => c45 (by rw [h_]; rfl)
     obtain rfl := Option.some.inj H
   rotate_left 4
   focus
    rw [if_neg c44] at H
    have c44b0 : (a1_0 == 2) = false := beq_eq_false_iff_ne.mpr c44
    have c44b1 : (a1_0 != 2) = true := bne_iff_ne.mpr c44
    by_cases c68 : a1_0 = 3
    focus
     rw [if_pos c68] at H
     have c68b0 : (a1_0 == 3) = true := beq_iff_eq.mpr c68
     have c68b1 : (a1_0 != 3) = false := bne_eq_false_iff_eq.mpr c68
     clear c68
     by_cases c69 : (wrap64 ((l1_1.length : Int) + (l1_2.length : Int))) = 0
     focus
      rw [if_pos c69] at H
      have c69b0 : ((wrap64 ((l1_1.length : Int) + (l1_2.length : Int))) == 0) = true := beq_iff_eq.mpr c69
      have c69b1 : ((wrap64 ((l1_1.length : Int) + (l1_2.length : Int))) != 0) = false := bne_eq_false_iff_eq.mpr c69
      clear c69
      replace H := Option.bind_eq_some_iff.mp H
      obtain ⟨t197, A700, H⟩ := H
      replace H : (if t197 = true then ((zbh.f a1_5).bind fun t198 => (some t198)) else (some false)) = some r := H
      have A70 := zaa.mk A700
      clear A700
      by_cases c71 : t197 = true
      focus
       subst c71
       have H1 : ((zbh.f a1_5).bind fun t198 => (some t198)) = some r := by rw [if_pos rfl] at H; exact H
       clear H
       have H := H1
       clear H1
       replace H := Option.bind_eq_some_iff.mp H
       obtain ⟨t198, A720, H⟩ := H
       replace H : (some t198) = some r := H
       have A72 := zaa.mk A720
       clear A720
       obtain rfl := Option.some.inj H
      rotate_left 1
      focus
       replace c71 := Bool.eq_false_iff.mpr c71
       subst c71
       have H1 : (some false) = some r := by rw [if_neg (show ¬ (false = true) by decide)] at H; exact H
       clear H
       have H := H1
       clear H1
       obtain rfl := Option.some.inj H
     rotate_left 2
     focus
      rw [if_neg c69] at H
      have c69b0 : ((wrap64 ((l1_1.length : Int) + (l1_2.length : Int))) == 0) = false := beq_eq_false_iff_ne.mpr c69
      have c69b1 : ((wrap64 ((l1_1.length : Int) + (l1_2.length : Int))) != 0) = true := bne_iff_ne.mpr c69
      obtain rfl := Option.some.inj H
    rotate_left 3
    focus
     rw [if_neg c68] at H
     have c68b0 : (a1_0 == 3) = false := beq_eq_false_iff_ne.mpr c68
     have c68b1 : (a1_0 != 3) = true := bne_iff_ne.mpr c68
     obtain rfl := Option.some.inj H
 all_goals
  go_enter Tryz.func60, Tryz.ntmps60
  go_wp2_with (first | ((with_reducible refine zaS (N := 2) rfl ?_); (try (refine zby (by rfl) ?_; dsimp only)); refine zaG ?hg (N := 2) ?hd (cs := #[.slice A0_0 l0_0.length c0_0]) (t := 24) ?hr ?_; (case hd => rfl); (case hg => rfl); (case hr => first | (go_simp; done) | (go_simp; rfl)); intro gb192 hg wq1 hbox hb; have n0_ := zaa.mk (zam (by repeat (first | (with_reducible first | exact HB.out | apply zad | apply zab | apply zae) | exact HB.out)) hb); have n1_ := zaa.mk (hbox); have n2_ := zaa.mk ((by rw [hg]; exact (zar (by repeat (first | (with_reducible first | exact HB.out | apply zad | apply zab | apply zae) | exact HB.out))) : w.heap.size ≤ gb192)); have n3_ := zaa.mk ((by rw [hg]; exact (zar (by repeat (first | (with_reducible first | exact HB.out | apply zad | apply zab | apply zae) | exact HB.out))) : w.heap.size ≤ gb192)); clear HB; have HB := n0_; have BK192 := n1_; have GW192 := n2_; have GE192 := n3_; clear n0_ n1_ n2_ n3_; clear hb hbox hg) | ((with_reducible refine zaS (N := 3) rfl ?_); (try (refine zby (by rfl) ?_; dsimp only)); refine zaG ?hg (N := 3) ?hd (cs := #[.int .i64 a1_0, .slice A1_1 l1_1.length c1_1, .slice A1_2 l1_2.length c1_2, .string a1_3, .int .i64 a1_4, .int .i64 a1_5]) (t := 40) ?hr ?_; (case hd => rfl); (case hg => rfl); (case hr => first | (go_simp; done) | (go_simp; rfl)); intro gb193 hg wq2 hbox hb; have n0_ := zaa.mk (zan (g := gb192) (o := .cells #[.slice A0_0 l0_0.length c0_0] 24 (0, 0)) (by (with_reducible repeat (first | refine zaj ?_ _ | refine zak ?_ | refine zai ?_ _)); exact BK192.out) hb); have n1_ := zaa.mk (zam (by repeat (first | (with_reducible first | exact HB.out | apply zad | apply zab | apply zae | refine zal ?_ GE192.out) | exact HB.out)) hb); have n2_ := zaa.mk (hbox); have n3_ := zaa.mk ((by rw [hg]; exact (zar (by repeat (first | (with_reducible first | exact HB.out | apply zad | apply zab | apply zae | refine zal ?_ GE192.out) | exact HB.out))) : w.heap.size ≤ gb193)); have n4_ := zaa.mk ((by rw [hg]; exact (zar (by repeat (first | (with_reducible first | exact HB.out | apply zad | apply zab | apply zae | refine zal ?_ GE192.out) | exact HB.out))) : w.heap.size ≤ gb193)); have n5_ := zaa.mk ((by rw [hg]; exact Nat.ne_of_lt (zaO (g := gb192) (o := .cells #[.slice A0_0 l0_0.length c0_0] 24 (0, 0)) (by (with_reducible repeat (first | refine zaj ?_ _ | refine zak ?_ | refine zai ?_ _)); exact BK192.out)) : gb192 ≠ gb193)); have n6_ := zaa.mk ((by rw [hg]; exact Nat.ne_of_gt (zaO (g := gb192) (o := .cells #[.slice A0_0 l0_0.length c0_0] 24 (0, 0)) (by (with_reducible repeat (first | refine zaj ?_ _ | refine zak ?_ | refine zai ?_ _)); exact BK192.out)) : gb193 ≠ gb192)); clear BK192; clear HB; have BK192 := n0_; have HB := n1_; have BK193 := n2_; have GW193 := n3_; have GE193 := n4_; have NB192_193 := n5_; have NB193_192 := n6_; clear n0_ n1_ n2_ n3_ n4_ n5_ n6_; clear hb hbox hg; have hnbq3 := NB193_192.out; have hncq3 := NB192_193.out; have hczq4_0 : wq2.cell? ⟨gb193, 0, none⟩ = some (.int .i64 a1_0) := (zac BK193.out 0).trans rfl; have hczq4_1 : wq2.cell? ⟨gb193, 1, none⟩ = some (.slice A1_1 l1_1.length c1_1) := (zac BK193.out 1).trans rfl; have hczq4_2 : wq2.cell? ⟨gb193, 2, none⟩ = some (.slice A1_2 l1_2.length c1_2) := (zac BK193.out 2).trans rfl; have hczq4_3 : wq2.cell? ⟨gb193, 3, none⟩ = some (.string a1_3) := (zac BK193.out 3).trans rfl; have hczq4_4 : wq2.cell? ⟨gb193, 4, none⟩ = some (.int .i64 a1_4) := (zac BK193.out 4).trans rfl; have hczq4_5 : wq2.cell? ⟨gb193, 5, none⟩ = some (.int .i64 a1_5) := (zac BK193.out 5).trans rfl; have hfzq4_0 := zaf BK193.out 0; have hfzq4_1 := zaf BK193.out 1; have hfzq4_2 := zaf BK193.out 2; have hfzq4_3 := zaf BK193.out 3; have hfzq4_4 := zaf BK193.out 4; have hfzq4_5 := zaf BK193.out 5) | (go_at_call 67; (with_reducible refine (zbh.calls a1_5 _ _ A27.out).mono ?_); rintro e w' ⟨rfl, ⟨nd, rfl⟩⟩) | (go_at_call 67; (with_reducible refine (zbh.calls a1_5 _ _ A47.out).mono ?_); rintro e w' ⟨rfl, ⟨nd, rfl⟩⟩; have hczq5_0 : wq2.cell? ⟨gb192, 0, none⟩ = some (.slice A0_0 l0_0.length c0_0) := (zac BK192.out 0).trans rfl; have hfzq5_0 := zaf BK192.out 0) | (go_at_call 92; (with_reducible refine (zco.calls _ _ l0_0 _ _ l1_2 _ _ ?side1 ?side2 ?side3 ?side4 A49.out).mono ?_); (case side1 => repeat (first | exact (Kd.C_below HR0_0.out (by repeat (first | (with_reducible first | exact HB.out | apply zad | apply zab | apply zae | refine zal ?_ GE192.out | refine zal ?_ GE193.out) | exact HB.out))) | (with_reducible refine Kd.C_alloc ?_ _) | (with_reducible refine Kd.C_drewN ?_ _) | (with_reducible refine Kd.C_drew ?_))); (case side2 => exact HC0_0.out); (case side3 => repeat (first | exact (Kd.C_below HR1_2.out (by repeat (first | (with_reducible first | exact HB.out | apply zad | apply zab | apply zae | refine zal ?_ GE192.out | refine zal ?_ GE193.out) | exact HB.out))) | (with_reducible refine Kd.C_alloc ?_ _) | (with_reducible refine Kd.C_drewN ?_ _) | (with_reducible refine Kd.C_drew ?_))); (case side4 => exact HC1_2.out); rintro e wq6 ⟨rfl, hb⟩; have n0_ := zaa.mk (zan (g := gb192) (o := .cells #[.slice A0_0 l0_0.length c0_0] 24 (0, 0)) (by (with_reducible repeat (first | refine zaj ?_ _ | refine zak ?_ | refine zai ?_ _)); exact BK192.out) hb); have n1_ := zaa.mk (zan (g := gb193) (o := .cells #[.int .i64 a1_0, .slice A1_1 l1_1.length c1_1, .slice A1_2 l1_2.length c1_2, .string a1_3, .int .i64 a1_4, .int .i64 a1_5] 40 (0, 0)) (by (with_reducible repeat (first | refine zaj ?_ _ | refine zak ?_ | refine zai ?_ _)); exact BK193.out) hb); have n2_ := zaa.mk (zam (by repeat (first | (with_reducible first | exact HB.out | apply zad | apply zab | apply zae | refine zal ?_ GE192.out | refine zal ?_ GE193.out) | exact HB.out)) hb); clear BK192; clear BK193; clear HB; have BK192 := n0_; have BK193 := n1_; have HB := n2_; clear n0_ n1_ n2_; (try clear hb); (try clear hb2); (try clear hk); (try clear hi)) | (go_at_call 67; (with_reducible refine (zbh.calls a1_5 _ _ A47.out).mono ?_); rintro e w' ⟨rfl, ⟨nd, rfl⟩⟩) | (go_at_call 93; (with_reducible refine (zcc.calls a1_3 _ _ A70.out).mono ?_); rintro e w' ⟨rfl, ⟨nd, rfl⟩⟩) | (go_at_call 67; (with_reducible refine (zbh.calls a1_5 _ _ A72.out).mono ?_); rintro e w' ⟨rfl, ⟨nd, rfl⟩⟩))
  go_ret
  exact ⟨by first | rfl | (simp [zaw, zav] <;> rfl) | (simp [*, zaw, zav] <;> rfl), by repeat (first | (with_reducible first | exact HB.out | apply zad | apply zab | apply zae | refine zal ?_ GE192.out | refine zal ?_ GE193.out) | exact HB.out)⟩
end Go.Proofs.YtjghephnjkffcaaGreat.PAll
