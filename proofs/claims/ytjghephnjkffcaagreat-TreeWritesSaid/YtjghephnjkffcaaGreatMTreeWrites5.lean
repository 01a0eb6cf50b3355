/- Parts of one proof, merged by a program of this repo: walks over the given program and plain facts. -/
import Derived.Test.YtjghephnjkffcaaGreatMTreeWrites4
import Derived.Test.YtjghephnjkffcaaGreatMTreeWrites3
import Derived.WalkLawsBesides
namespace Go.Proofs.YtjghephnjkffcaaGreat.PAll
open Go.RowKit Go.Proofs.YtjghephnjkffcaaGreatW.PrintWords Go.Proofs.YtjghephnjkffcaaGreatW.PrintLast Go.Proofs.YtjghephnjkffcaaGreatW.PrintMore
attribute [local go_sem] zb2 zb0 zcn zcm zbF zbE zb1 zbZ
set_option linter.unusedVariables false
set_option linter.unusedSimpArgs false
def zaE.l0 : Nat → List (S40) → List (S40) → Int → Option ((List (S40)))
 | 0, _, _, _ => none
 | k + 1, x0, x3, x4 => if x4 < (x0.length : Int) then (if 0 ≤ x4 then ((zbB.f k ((zah x0 x4).f0) ((zah x0 x4).f1) ((zah x0 x4).f2) ((zah x0 x4).f3) ((zah x0 x4).f4) ((zah x0 x4).f5)).bind fun bt129 => (if x3.length < 1599289640401 then (zaE.l0 k x0 (x3 ++ [(⟨bt129.1, bt129.2.1, bt129.2.2.1, bt129.2.2.2.1, bt129.2.2.2.2.1, bt129.2.2.2.2.2⟩ : S40)]) (wrap64 (x4 + 1))) else (none))) else (none)) else (some x3)
def zaE.f (k : Nat) (l0 : List (S40)) : Option ((List (S40))) := zaE.l0 k l0 ([] : List (S40)) 0
set_option maxHeartbeats 8000000 in
set_option maxRecDepth 100000 in
theorem zaE.calls (k : Nat) (A0 : Option Addr) (c0 : Nat) (l0 : List (S40)) (r : List (S40)) (w : World) (hr0 : Kd.C k40 w A0 l0.length l0) (hc0 : l0.length ≤ c0) (h : zaE.f k l0 = some r) :
  Calls Tryz.prog 22 #[.slice A0 l0.length c0] w fun e w' => ∃ v0_ : Value, e = .returned (v0_) ∧ Kd.S k40 40 w' w.heap.size (fun _ => True) v0_ r ∧ Below w.heap.size w w' := by
 have hu40 := Tryz.underlying40
 have HR0 := zaa.mk hr0
 have HC0 := zaa.mk hc0
 clear hr0 hc0
 have HB := zaa.mk (Below.refl w.heap.size w)
 have H : (zaE.l0 k l0 ([] : List (S40)) 0) = some r := h
 clear h
 have H' := zaa.mk H
 clear H
 go_enter Tryz.func22, Tryz.ntmps22
 go_wp2
 go_loopg [3, 4] k (fun kq v3 v4 w' => ∃ (x3_1 : List (S40)) (x4_1 : Int), v4 = .int .i64 x4_1 ∧ zaa (zaE.l0 kq l0 x3_1 x4_1 = some r) ∧ zaa (kq ≤ k) ∧ zaa (Kd.S k40 40 w' w.heap.size (fun _ => True) v3 x3_1) ∧ zaa (Below w.heap.size w w'))
 case atStart => exact ⟨(([] : List (S40))), (0), (by first | rfl | (simp; done) | (simp [*]; done)), H', ⟨Nat.le_refl _⟩, ⟨by first | exact Kd.S_nil _ _ _ _ _ | exact Kd.N_nil _ _ _ _ _ | exact Kd.V_nil _ _ _ _ _ | exact Kd.Q_nil _ _ _ _ _ | exact Kd.R_nil _ _ _ _ _⟩, ⟨by repeat (first | (with_reducible first | exact HB.out | apply zad | apply zab | apply zae) | exact HB.out)⟩⟩
 case round =>
  clear H'
  obtain ⟨x3_1, x4_1, rfl, HA, HK1, HO_3, HB⟩ := hrel
  cases gk with
  | zero => exact absurd HA.out (by simp [zaE.l0])
  | succ k1 =>
   have H := HA.out
   clear HA
   simp only [zaE.l0] at H
   by_cases c2 : x4_1 < (l0.length : Int)
   ·rw [if_pos c2] at H
    have c2b0 : decide (x4_1 < (l0.length : Int)) = true := decide_eq_true c2
    clear c2
    by_cases c3 : 0 ≤ x4_1
    ·rw [if_pos c3] at H
     have c3b0 : decide (0 ≤ x4_1) = true := decide_eq_true c3
     clear c3
     replace H := Option.bind_eq_some_iff.mp H
     obtain ⟨⟨t129, t130, t133, t136, t137, t138⟩, A40, H⟩ := H
     replace H : (if x3_1.length < 1599289640401 then (zaE.l0 k1 l0 (x3_1 ++ [(⟨t129, t130, t133, t136, t137, t138⟩ : S40)]) (wrap64 (x4_1 + 1))) else (none)) = some r := H
     have A4 := zaa.mk A40
     clear A40
     by_cases c5 : x3_1.length < 1599289640401
     ·rw [if_pos c5] at H
      have LMc5 := zaa.mk c5
      clear c5
      obtain ⟨y139, hy139⟩ : ∃ y_ : List (S40), y_ = (x3_1 ++ [(⟨t129, t130, t133, t136, t137, t138⟩ : S40)]) := ⟨_, rfl⟩
      replace H : (zaE.l0 k1 l0 y139 (wrap64 (x4_1 + 1))) = some r := by first | (rw [hy139]; with_reducible exact H) | (have H2_ := (Option.bind_some _ _).symm.trans H; rw [hy139]; with_reducible exact H2_) | (have H2_ := (Option.bind_some _ _).symm.trans H; with_reducible exact H2_) | with_reducible exact H | (rw [hy139]; exact H) | exact H
      have Ny139 := zaa.mk hy139
      clear hy139
      have H' := zaa.mk H
      clear H
      have p128 : 0 ≤ (x4_1 : Int) := of_decide_eq_true (by first | (with_reducible assumption) | assumption)
      have q128 : x4_1 < (l0.length : Int) := of_decide_eq_true (by first | (with_reducible assumption) | assumption)
      obtain ⟨ad128, A128_1, c128_1, A128_2, c128_2, e128, hx128_0, hx128_1, hx128_2, hx128_3, hx128_4, hx128_5, hl128_1, hi128_1, hl128_2, hi128_2⟩ := zbc HR0.out x4_1 p128 q128
      cases e128
      replace hx128_0 := (HB.out.cell (World.block_lt_of_cell? w _ hx128_0)).trans hx128_0
      replace hx128_1 := (HB.out.cell (World.block_lt_of_cell? w _ hx128_1)).trans hx128_1
      replace hx128_2 := (HB.out.cell (World.block_lt_of_cell? w _ hx128_2)).trans hx128_2
      replace hx128_3 := (HB.out.cell (World.block_lt_of_cell? w _ hx128_3)).trans hx128_3
      replace hx128_4 := (HB.out.cell (World.block_lt_of_cell? w _ hx128_4)).trans hx128_4
      replace hx128_5 := (HB.out.cell (World.block_lt_of_cell? w _ hx128_5)).trans hx128_5
      have HR128_1 := zaa.mk hi128_1
      have HC128_1 := zaa.mk hl128_1
      clear hi128_1 hl128_1
      have HR128_2 := zaa.mk hi128_2
      have HC128_2 := zaa.mk hl128_2
      clear hi128_2 hl128_2
      replace p128 := eq_true p128
      replace q128 := eq_true q128
      go_wp2_with (first | ((with_reducible refine zaY (f := 57) rfl ?_); refine zbI (some 16) rfl rfl Tryz.func57 (by kernel_rfl) rfl #[.agg #[.int .i64 ((zah l0 x4_1).f0), .slice A128_1 ((zah l0 x4_1).f1).length c128_1, .slice A128_2 ((zah l0 x4_1).f2).length c128_2, .string ((zah l0 x4_1).f3), .int .i64 ((zah l0 x4_1).f4), .int .i64 ((zah l0 x4_1).f5)]] rfl (by (try simp only [List.map_toArray, List.map_cons, List.map_nil]); first | done | rfl | (simp only [List.length_drop, List.length_take]; rfl)) ?_; (with_reducible refine (zbB.calls k1 ((zah l0 x4_1).f0) _ _ ((zah l0 x4_1).f1) _ _ ((zah l0 x4_1).f2) ((zah l0 x4_1).f3) ((zah l0 x4_1).f4) ((zah l0 x4_1).f5) t129 t130 t133 t136 t137 t138 _ ?side1 ?side2 ?side3 ?side4 A4.out).mono ?_); (case side1 => repeat (first | exact (Kd.C_below HR128_1.out HB.out) | (with_reducible refine Kd.C_alloc ?_ _) | (with_reducible refine Kd.C_drewN ?_ _) | (with_reducible refine Kd.C_drew ?_))); (case side2 => exact HC128_1.out); (case side3 => repeat (first | exact (Kd.C_below HR128_2.out HB.out) | (with_reducible refine Kd.C_alloc ?_ _) | (with_reducible refine Kd.C_drewN ?_ _) | (with_reducible refine Kd.C_drew ?_))); (case side4 => exact HC128_2.out); rintro e w6 ⟨v131, v134, rfl, ho0, ho1, hb⟩; refine ⟨_, rfl, ?_⟩; have n0_ := zaa.mk (Kd.zbt (Kd.S_told (Kd.S_told (Kd.S_old (by (with_reducible repeat (first | apply Kd.zbn | apply Kd.zbp | apply Kd.zbC)); exact HO_3.out) hb) (Kd.R_base ho0)) (Kd.R_base ho1)) (fun _ h_ => h_.1)); have n1_ := zaa.mk (Kd.zcw ho0 (zar (by repeat (first | (with_reducible first | exact HB.out | apply zad | apply zab | apply zae) | exact HB.out)))); have n2_ := zaa.mk (Kd.zcw ho1 (zar (by repeat (first | (with_reducible first | exact HB.out | apply zad | apply zab | apply zae) | exact HB.out)))); have n3_ := zaa.mk (zam (by repeat (first | (with_reducible first | exact HB.out | apply zad | apply zab | apply zae) | exact HB.out)) hb); clear HO_3; clear HB; have HO_3 := n0_; have HO132 := n1_; have HO135 := n2_; have HB := n3_; clear n0_ n1_ n2_ n3_; (try clear hb); (try clear hb2); (try clear hk); (try clear hi); (try clear ho0); (try clear ho1); obtain ⟨Ao8, co8, eo8⟩ := Kd.zbP HO132.out; subst eo8; obtain ⟨Ao9, co9, eo9⟩ := Kd.zbP HO135.out; subst eo9) | ((with_reducible refine zce (b := .append) (xs := #[.tmp 11, .tmp 17]) rfl ?_); at_builtin; refine Kd.S_append k40 (w0 := w) w.heap.size rfl (.tmp 11) (.tmp 17) 22 40 (.agg #[(.int .i64 0), (.slice none 0 0), (.slice none 0 0), (.string ⟨#[]⟩), (.int .i64 0), (.int .i64 0)]) 88 rfl Tryz.underlying22 info40 rfl (by decide) (by omega) u3 x3_1 (⟨t129, t130, t133, t136, t137, t138⟩ : S40) [.int .i64 t129, .slice Ao8 t130.length co8, .slice Ao9 t133.length co9, .string t136, .int .i64 t137, .int .i64 t138] (fun _ => True) (fun k_ => some k_ = (.slice Ao8 t130.length co8 : Value).ownBlock ∨ some k_ = (.slice Ao9 t133.length co9 : Value).ownBlock) rfl rfl ?aP (fun k_ hk_ => hk_.elim (fun h_ => ((Kd.zbj (ok' := fun k_ => ((fun _ => True)) k_ ∧ some k_ ≠ (u3 : Value).ownBlock) (Kd.zcx (HO132.out) (Kd.S_typed HO_3.out) (by decide)) (fun k_ hk => ⟨trivial, hk.2⟩))).1 k_ h_.symm) (fun h_ => ((Kd.zbj (ok' := fun k_ => ((fun _ => True)) k_ ∧ some k_ ≠ (u3 : Value).ownBlock) (Kd.zcx (HO135.out) (Kd.S_typed HO_3.out) (by decide)) (fun k_ hk => ⟨trivial, hk.2⟩))).1 k_ h_.symm)) ?aF ?aO ?aB ?aS ?aL ?_; (case aP => exact zcg _ _ _ (⟨t129, t130, t133, t136, t137, t138⟩ : S40) (Kd.zbj (Kd.R_tight rfl (Kd.zbj (ok' := fun k_ => ((fun _ => True)) k_ ∧ some k_ ≠ (u3 : Value).ownBlock) (Kd.zcx (HO132.out) (Kd.S_typed HO_3.out) (by decide)) (fun k_ hk => ⟨trivial, hk.2⟩))) (fun _ h_ => Or.inl h_)) (Kd.zbj (Kd.R_tight rfl (Kd.zbj (ok' := fun k_ => ((fun _ => True)) k_ ∧ some k_ ≠ (u3 : Value).ownBlock) (Kd.zcx (HO135.out) (Kd.S_typed HO_3.out) (by decide)) (fun k_ hk => ⟨trivial, hk.2⟩))) (fun _ h_ => Or.inr (h_)))); (case aB => exact (by repeat (first | (with_reducible first | exact HB.out | apply zad | apply zab | apply zae) | exact HB.out))); (case aF => exact (fun _ _ => trivial)); (case aO => exact (by (with_reducible repeat (first | apply Kd.zbn | apply Kd.zbp | apply Kd.zbC)); exact Kd.zbt HO_3.out (fun k_ hk => ⟨trivial, fun e_ => e_.elim (fun h_ => hk.1.2 h_) (fun h_ => hk.2 h_)⟩))); (case aS => exact (zar (by repeat (first | (with_reducible first | exact HB.out | apply zad | apply zab | apply zae) | exact HB.out)))); (case aL => have := LMc5.out; omega); intro v140 w7 ho hb hg hat; rw [← Ny139.out] at ho; have n0_ := zaa.mk (hb); have n1_ := zaa.mk (ho); clear HB; clear HO_3; clear HO132; clear HO135; have HB := n0_; have HO141 := n1_; clear n0_ n1_; clear ho hb hg hat))
      go_roundg k1
      case measure => have := HK1.out; omega
      case rel => exact ⟨(y139), (wrap64 (x4_1 + 1)), (by first | rfl | (simp; done) | (simp [*]; done)), H', ⟨by have := HK1.out; omega⟩, ⟨by (with_reducible repeat (first | apply Kd.zbn | apply Kd.zbp | apply Kd.zbC)); exact HO141.out⟩, ⟨by repeat (first | (with_reducible first | exact HB.out | apply zad | apply zab | apply zae) | exact HB.out)⟩⟩
     ·rw [if_neg c5] at H
      exact absurd H (by simp)
    ·rw [if_neg c3] at H
     exact absurd H (by simp)
   ·rw [if_neg c2] at H
    have c2b0 : decide (x4_1 < (l0.length : Int)) = false := decide_eq_false c2
    clear c2
    obtain rfl := Option.some.inj H
    go_wp2
    go_ret
    exact ⟨_, by first | rfl | (simp [zaw, zav] <;> rfl) | (simp [*, zaw, zav] <;> rfl), by (with_reducible repeat (first | apply Kd.zbn | apply Kd.zbp | apply Kd.zbC)); exact HO_3.out, by repeat (first | (with_reducible first | exact HB.out | apply zad | apply zab | apply zae) | exact HB.out)⟩
def za1.f (k : Nat) (l0_0 : List (S40)) : Option ((List (S40))) := (zaE.f k l0_0).bind fun t145 => (some t145)
set_option maxHeartbeats 8000000 in
set_option maxRecDepth 100000 in
theorem za1.calls (k : Nat) (A0_0 : Option Addr) (c0_0 : Nat) (l0_0 : List (S40)) (r : List (S40)) (w : World) (hr0_0 : Kd.C k40 w A0_0 l0_0.length l0_0) (hc0_0 : l0_0.length ≤ c0_0) (h : za1.f k l0_0 = some r) :
  Calls Tryz.prog 13 #[.agg #[.slice A0_0 l0_0.length c0_0]] w fun e w' => ∃ v0_ : Value, e = .returned (.agg #[v0_]) ∧ Kd.S k40 40 w' w.heap.size (fun _ => True) v0_ r ∧ Below w.heap.size w w' := by
 have hu24 := Tryz.underlying24
 have HR0_0 := zaa.mk hr0_0
 have HC0_0 := zaa.mk hc0_0
 clear hr0_0 hc0_0
 have HB := zaa.mk (Below.refl w.heap.size w)
 have H : ((zaE.f k l0_0).bind fun t145 => (some t145)) = some r := h
 clear h
 replace H := Option.bind_eq_some_iff.mp H
 obtain ⟨t145, A20, H⟩ := H
 replace H : (some t145) = some r := H
 have A2 := zaa.mk A20
 clear A20
 obtain rfl := Option.some.inj H
 go_enter Tryz.func13, Tryz.ntmps13
 go_wp2_with (first | ((with_reducible refine zaS (N := 1) rfl ?_); refine zaG ?hg (N := 1) ?hd (cs := #[.slice A0_0 l0_0.length c0_0]) (t := 24) ?hr ?_; (case hd => rfl); (case hg => rfl); (case hr => first | (go_simp; done) | (go_simp; rfl)); intro gb142 hg w3 hbox hb; have n0_ := zaa.mk (zam (by repeat (first | (with_reducible first | exact HB.out | apply zad | apply zab | apply zae) | exact HB.out)) hb); have n1_ := zaa.mk (hbox); have n2_ := zaa.mk ((by rw [hg]; exact (zar (by repeat (first | (with_reducible first | exact HB.out | apply zad | apply zab | apply zae) | exact HB.out))) : w.heap.size ≤ gb142)); have n3_ := zaa.mk ((by rw [hg]; exact (zar (by repeat (first | (with_reducible first | exact HB.out | apply zad | apply zab | apply zae) | exact HB.out))) : w.heap.size ≤ gb142)); clear HB; have HB := n0_; have BK142 := n1_; have GW142 := n2_; have GE142 := n3_; clear n0_ n1_ n2_ n3_; clear hb hbox hg) | ((with_reducible refine zaS (N := 2) rfl ?_); refine zaG ?hg (N := 2) ?hd (cs := #[.slice none 0 0]) (t := 24) ?hr ?_; (case hd => rfl); (case hg => rfl); (case hr => first | (go_simp; done) | (go_simp; rfl)); intro gb143 hg w4 hbox hb; have n0_ := zaa.mk (zan (g := gb142) (o := .cells #[.slice A0_0 l0_0.length c0_0] 24 (0, 0)) (by (with_reducible repeat (first | refine zaj ?_ _ | refine zak ?_ | refine zai ?_ _)); exact BK142.out) hb); have n1_ := zaa.mk (zam (by repeat (first | (with_reducible first | exact HB.out | apply zad | apply zab | apply zae | refine zal ?_ GE142.out) | exact HB.out)) hb); have n2_ := zaa.mk (hbox); have n3_ := zaa.mk ((by rw [hg]; exact (zar (by repeat (first | (with_reducible first | exact HB.out | apply zad | apply zab | apply zae | refine zal ?_ GE142.out) | exact HB.out))) : w.heap.size ≤ gb143)); have n4_ := zaa.mk ((by rw [hg]; exact (zar (by repeat (first | (with_reducible first | exact HB.out | apply zad | apply zab | apply zae | refine zal ?_ GE142.out) | exact HB.out))) : w.heap.size ≤ gb143)); have n5_ := zaa.mk ((by rw [hg]; exact Nat.ne_of_lt (zaO (g := gb142) (o := .cells #[.slice A0_0 l0_0.length c0_0] 24 (0, 0)) (by (with_reducible repeat (first | refine zaj ?_ _ | refine zak ?_ | refine zai ?_ _)); exact BK142.out)) : gb142 ≠ gb143)); have n6_ := zaa.mk ((by rw [hg]; exact Nat.ne_of_gt (zaO (g := gb142) (o := .cells #[.slice A0_0 l0_0.length c0_0] 24 (0, 0)) (by (with_reducible repeat (first | refine zaj ?_ _ | refine zak ?_ | refine zai ?_ _)); exact BK142.out)) : gb143 ≠ gb142)); clear BK142; clear HB; have BK142 := n0_; have HB := n1_; have BK143 := n2_; have GW143 := n3_; have GE143 := n4_; have NB142_143 := n5_; have NB143_142 := n6_; clear n0_ n1_ n2_ n3_ n4_ n5_ n6_; clear hb hbox hg; have hnb5 := NB142_143.out; have hnc5 := NB143_142.out; have hcz6_0 : w4.cell? ⟨gb142, 0, none⟩ = some (.slice A0_0 l0_0.length c0_0) := (zac BK142.out 0).trans rfl; have hfz6_0 := zaf BK142.out 0) | ((with_reducible refine zaS (N := 3) rfl ?_); refine zaG ?hg (N := 3) ?hd (cs := #[.slice none 0 0]) (t := 24) ?hr ?_; (case hd => rfl); (case hg => rfl); (case hr => first | (go_simp; done) | (go_simp; rfl)); intro gb144 hg w7 hbox hb; have n0_ := zaa.mk (zan (g := gb142) (o := .cells #[.slice A0_0 l0_0.length c0_0] 24 (0, 0)) (by (with_reducible repeat (first | refine zaj ?_ _ | refine zak ?_ | refine zai ?_ _)); exact BK142.out) hb); have n1_ := zaa.mk (zan (g := gb143) (o := .cells #[.slice none 0 0] 24 (0, 0)) (by (with_reducible repeat (first | refine zaj ?_ _ | refine zak ?_ | refine zai ?_ _)); exact BK143.out) hb); have n2_ := zaa.mk (zam (by repeat (first | (with_reducible first | exact HB.out | apply zad | apply zab | apply zae | refine zal ?_ GE142.out | refine zal ?_ GE143.out) | exact HB.out)) hb); have n3_ := zaa.mk (hbox); have n4_ := zaa.mk ((by rw [hg]; exact (zar (by repeat (first | (with_reducible first | exact HB.out | apply zad | apply zab | apply zae | refine zal ?_ GE142.out | refine zal ?_ GE143.out) | exact HB.out))) : w.heap.size ≤ gb144)); have n5_ := zaa.mk ((by rw [hg]; exact (zar (by repeat (first | (with_reducible first | exact HB.out | apply zad | apply zab | apply zae | refine zal ?_ GE142.out | refine zal ?_ GE143.out) | exact HB.out))) : w.heap.size ≤ gb144)); have n6_ := zaa.mk ((by rw [hg]; exact Nat.ne_of_lt (zaO (g := gb142) (o := .cells #[.slice A0_0 l0_0.length c0_0] 24 (0, 0)) (by (with_reducible repeat (first | refine zaj ?_ _ | refine zak ?_ | refine zai ?_ _)); exact BK142.out)) : gb142 ≠ gb144)); have n7_ := zaa.mk ((by rw [hg]; exact Nat.ne_of_gt (zaO (g := gb142) (o := .cells #[.slice A0_0 l0_0.length c0_0] 24 (0, 0)) (by (with_reducible repeat (first | refine zaj ?_ _ | refine zak ?_ | refine zai ?_ _)); exact BK142.out)) : gb144 ≠ gb142)); have n8_ := zaa.mk ((by rw [hg]; exact Nat.ne_of_lt (zaO (g := gb143) (o := .cells #[.slice none 0 0] 24 (0, 0)) (by (with_reducible repeat (first | refine zaj ?_ _ | refine zak ?_ | refine zai ?_ _)); exact BK143.out)) : gb143 ≠ gb144)); have n9_ := zaa.mk ((by rw [hg]; exact Nat.ne_of_gt (zaO (g := gb143) (o := .cells #[.slice none 0 0] 24 (0, 0)) (by (with_reducible repeat (first | refine zaj ?_ _ | refine zak ?_ | refine zai ?_ _)); exact BK143.out)) : gb144 ≠ gb143)); clear BK142; clear BK143; clear HB; have BK142 := n0_; have BK143 := n1_; have HB := n2_; have BK144 := n3_; have GW144 := n4_; have GE144 := n5_; have NB142_144 := n6_; have NB144_142 := n7_; have NB143_144 := n8_; have NB144_143 := n9_; clear n0_ n1_ n2_ n3_ n4_ n5_ n6_ n7_ n8_ n9_; clear hb hbox hg; have hnb8 := NB144_142.out; have hnc8 := NB142_144.out; have hnb9 := NB144_143.out; have hnc9 := NB143_144.out; have hcz10_0 : w7.cell? ⟨gb144, 0, none⟩ = some (.slice none 0 0) := (zac BK144.out 0).trans rfl; have hfz10_0 := zaf BK144.out 0; have hcz11_0 : w7.cell? ⟨gb142, 0, none⟩ = some (.slice A0_0 l0_0.length c0_0) := (zac BK142.out 0).trans rfl; have hfz11_0 := zaf BK142.out 0) | ((with_reducible refine zaY (f := 22) rfl ?_); refine zbI (some 7) rfl rfl Tryz.func22 (by kernel_rfl) rfl #[.slice A0_0 l0_0.length c0_0] rfl (by (try simp only [List.map_toArray, List.map_cons, List.map_nil]); first | done | rfl | (simp only [List.length_drop, List.length_take]; rfl)) ?_; (with_reducible refine (zaE.calls k _ _ l0_0 t145 _ ?side1 ?side2 A2.out).mono ?_); (case side1 => exact Kd.C_below HR0_0.out (by repeat (first | (with_reducible first | exact HB.out | apply zad | apply zab | apply zae | refine zal ?_ GE142.out | refine zal ?_ GE143.out | refine zal ?_ GE144.out) | exact HB.out))); (case side2 => exact HC0_0.out); rintro e w12 ⟨v146, rfl, ho0, hb⟩; refine ⟨_, rfl, ?_⟩; have n0_ := zaa.mk (Kd.zbD ho0 (zar (by repeat (first | (with_reducible first | exact HB.out | apply zad | apply zab | apply zae | refine zal ?_ GE142.out | refine zal ?_ GE143.out | refine zal ?_ GE144.out) | exact HB.out)))); have n1_ := zaa.mk (zan (g := gb142) (o := .cells #[.slice A0_0 l0_0.length c0_0] 24 (0, 0)) (by (with_reducible repeat (first | refine zaj ?_ _ | refine zak ?_ | refine zai ?_ _)); refine zaD ?_ NB142_144.out _; (with_reducible repeat (first | refine zaj ?_ _ | refine zak ?_ | refine zai ?_ _)); exact BK142.out) hb); have n2_ := zaa.mk (zan (g := gb143) (o := .cells #[.slice none 0 0] 24 (0, 0)) (by (with_reducible repeat (first | refine zaj ?_ _ | refine zak ?_ | refine zai ?_ _)); refine zaD ?_ NB143_144.out _; (with_reducible repeat (first | refine zaj ?_ _ | refine zak ?_ | refine zai ?_ _)); exact BK143.out) hb); have n3_ := zaa.mk (zan (g := gb144) (o := .cells #[.slice A0_0 l0_0.length c0_0] 24 (0, 0)) (by (with_reducible repeat (first | refine zaj ?_ _ | refine zak ?_ | refine zai ?_ _)); refine zaP (cs := #[.slice none 0 0]) ?_ 0 _ rfl; (with_reducible repeat (first | refine zaj ?_ _ | refine zak ?_ | refine zai ?_ _)); exact BK144.out) hb); have n4_ := zaa.mk (zam (by repeat (first | (with_reducible first | exact HB.out | apply zad | apply zab | apply zae | refine zal ?_ GE142.out | refine zal ?_ GE143.out | refine zal ?_ GE144.out) | exact HB.out)) hb); clear BK142; clear BK143; clear BK144; clear HB; have HO147 := n0_; have BK142 := n1_; have BK143 := n2_; have BK144 := n3_; have HB := n4_; clear n0_ n1_ n2_ n3_ n4_; (try clear hb); (try clear hb2); (try clear hk); (try clear hi); (try clear ho0); obtain ⟨Ao13, co13, eo13⟩ := Kd.zbG HO147.out; subst eo13; have hcz14_0 : w12.cell? ⟨gb144, 0, none⟩ = some (.slice A0_0 l0_0.length c0_0) := (zac BK144.out 0).trans rfl; have hfz14_0 := zaf BK144.out 0; have hcz15_0 : w12.cell? ⟨gb143, 0, none⟩ = some (.slice none 0 0) := (zac BK143.out 0).trans rfl; have hfz15_0 := zaf BK143.out 0))
 refine bodyPost_ret (results_cell_row rfl _ _ gb143 24 #[.slice Ao13 t145.length co13] (0, 0) _ rfl (by (with_reducible repeat (first | refine zaj ?_ _ | refine zak ?_ | refine zai ?_ _)); refine zaP (cs := #[.slice none 0 0]) ?_ 0 _ rfl; (with_reducible repeat (first | refine zaj ?_ _ | refine zak ?_ | refine zai ?_ _)); refine zaD ?_ NB143_144.out _; (with_reducible repeat (first | refine zaj ?_ _ | refine zak ?_ | refine zai ?_ _)); exact BK143.out) Tryz.underlying24 rfl (by kernel_rfl)) rfl ?_
 exact ⟨_, by first | rfl | (simp [zaw, zav] <;> rfl) | (simp [*, zaw, zav] <;> rfl), by (with_reducible repeat (first | apply Kd.zbn | apply Kd.zbp | apply Kd.zbC)); exact Kd.zbt (Kd.S_far (p := ⟨gb143, 0, none⟩) (Kd.S_far (p := ⟨gb144, 0, none⟩) (Kd.S_types (Kd.S_types HO147.out BK144.out (by decide)) BK143.out (by decide)) (fun _ hk => hk.1.2) (.slice Ao13 t145.length co13)) (fun _ hk => hk.2) (.slice Ao13 t145.length co13)) (fun _ hk => trivial), by repeat (first | (with_reducible first | exact HB.out | apply zad | apply zab | apply zae | refine zal ?_ GE142.out | refine zal ?_ GE143.out | refine zal ?_ GE144.out) | exact HB.out)⟩
def za0.f (a0 : Int) : Option (Bool) := if a0 ≥ 0 then (some (decide (a0 ≤ 1125899906842624))) else (some false)
set_option maxHeartbeats 8000000 in
set_option maxRecDepth 100000 in
theorem za0.calls (a0 : Int) (r : Bool) (w : World) (h : za0.f a0 = some r) :
  Calls Tryz.prog 27 #[.int .i64 a0] w fun e w' => e = .returned (.bool r) ∧ zaQ w w' := by
 have H : (if a0 ≥ 0 then (some (decide (a0 ≤ 1125899906842624))) else (some false)) = some r := h
 clear h
 by_cases c2 : a0 ≥ 0
 ·rw [if_pos c2] at H
  have c2b0 : decide (0 ≤ a0) = true := decide_eq_true c2
  clear c2
  obtain rfl := Option.some.inj H
  go_enter Tryz.func27, Tryz.ntmps27
  go_wp2
  go_ret
  exact ⟨by first | rfl | (simp; done) | (simp [*]; done), by repeat (first | exact zaQ.refl _ | apply zaQ.step)⟩
 ·rw [if_neg c2] at H
  have c2b0 : decide (0 ≤ a0) = false := decide_eq_false c2
  clear c2
  obtain rfl := Option.some.inj H
  go_enter Tryz.func27, Tryz.ntmps27
  go_wp2
  go_ret
  exact ⟨by first | rfl | (simp; done) | (simp [*]; done), by repeat (first | exact zaQ.refl _ | apply zaQ.step)⟩
theorem up64 {i : Nat} (h : i < 9223372036854775807) : wrap64 ((i : Int) + 1) = ((i + 1 : Nat) : Int) := by unfold wrap64; omega
theorem bytes_eq {a b : ByteArray} : a.toList = b.toList ↔ a = b := by
 constructor
 ·intro h
  rw [ByteArray.toList_eq, ByteArray.toList_eq] at h
  cases a; cases b
  exact congrArg ByteArray.mk (Array.toList_inj.1 h)
 ·rintro rfl; rfl
theorem zcv {a : ByteArray} : a.toList = ([] : List UInt8) ↔ a = ⟨#[]⟩ := by
 have e : (⟨#[]⟩ : ByteArray).toList = ([] : List UInt8) := by rw [ByteArray.toList_eq]
 exact ⟨fun h => bytes_eq.1 (h.trans e.symm), fun h => (bytes_eq.2 h).trans e⟩
theorem rd_get (a : List Int) (i : Nat) (h : i < a.length) : rd a (i : Int) = a[i] := by
 unfold rd; rw [Int.toNat_natCast, List.getD_eq_getElem?_getD, List.getElem?_eq_getElem h]; rfl
theorem zbY (a : List S50) (i : Nat) (h : i < a.length) : zau a (i : Int) = a[i] := by
 unfold zau; rw [Int.toNat_natCast, List.getD_eq_getElem?_getD, List.getElem?_eq_getElem h]; rfl
theorem zcd (a : List S40) (i : Nat) (h : i < a.length) : zah a (i : Int) = a[i] := by
 unfold zah; rw [Int.toNat_natCast, List.getD_eq_getElem?_getD, List.getElem?_eq_getElem h]; rfl
def EvB (g : Nat → Option Bool) (P : Prop) : Prop := ∃ r : Bool, Ev g r ∧ (r = true ↔ P)
theorem EvB.iff {g : Nat → Option Bool} {P Q : Prop} (h : EvB g P) (hpq : P ↔ Q) : EvB g Q := by
 obtain ⟨r, h1, h2⟩ := h; exact ⟨r, h1, h2.trans hpq⟩
theorem EvB.congr {g f : Nat → Option Bool} {P : Prop} (h : EvB f P) (e : ∀ k, g k = f k) : EvB g P := by
 obtain ⟨r, h1, h2⟩ := h; exact ⟨r, Ev.congr e h1, h2⟩
theorem EvB.step {g f : Nat → Option Bool} {P : Prop} (h : EvB f P) (e : ∀ k, g (k + 1) = f k) : EvB g P := by
 obtain ⟨r, h1, h2⟩ := h; exact ⟨r, Ev.step e h1, h2⟩
theorem EvB.now (b : Bool) : EvB (fun _ => some b) (b = true) := ⟨b, Ev.now b, Iff.rfl⟩
theorem EvB.no {P : Prop} (h : ¬ P) : EvB (fun _ => some false) P := ⟨false, Ev.now _, by simp [h]⟩
theorem EvB.yes {P : Prop} (h : P) : EvB (fun _ => some true) P := ⟨true, Ev.now _, by simp [h]⟩
theorem EvB.and {g f : Nat → Option Bool} {P Q : Prop} (h : EvB g P) (h' : P → EvB f Q) : EvB (fun k => (g k).bind fun t => if t = true then f k else some false) (P ∧ Q) := by
 obtain ⟨r, h1, h2⟩ := h
 cases r with
 | true =>
  obtain ⟨q, h3, h4⟩ := h' (h2.1 rfl)
  exact ⟨q, Ev.bind (f := fun k t => if t = true then f k else some false) h1 (Ev.congr (fun k => if_pos rfl) h3), h4.trans ⟨fun h => ⟨h2.1 rfl, h⟩, And.right⟩⟩
 | false => exact ⟨false, Ev.bind (f := fun k t => if t = true then f k else some false) h1 (Ev.congr (fun k => if_neg (by simp)) (Ev.now false)), by constructor <;> intro h; cases h; exact absurd (h2.2 h.1) (by simp)⟩
theorem EvB.same {g : Nat → Option Bool} {P : Prop} (h : EvB g P) : EvB (fun k => (g k).bind fun t => some t) P := by
 obtain ⟨r, h1, h2⟩ := h
 exact ⟨r, Ev.bind (f := fun _ t => some t) h1 (Ev.now r), h2⟩
theorem EvB.out {g : Nat → Option Bool} {P : Prop} (h : EvB g P) (hp : P) : Ev g true := by
 obtain ⟨r, h1, h2⟩ := h; rwa [h2.2 hp] at h1
theorem EvB.not {g : Nat → Option Bool} {P : Prop} (h : EvB g P) (hp : ¬ P) : Ev g false := by
 obtain ⟨r, h1, h2⟩ := h
 cases r with
 | true => exact absurd (h2.1 rfl) hp
 | false => exact h1
theorem Ev.one {α : Type} {g : Nat → Option α} {a b : α} (h : Ev g a) (h' : Ev g b) : a = b := by
 obtain ⟨K, hK⟩ := h; obtain ⟨K', hK'⟩ := h'
 have h1 := hK (max K K') (Nat.le_max_left _ _)
 rw [hK' (max K K') (Nat.le_max_right _ _)] at h1
 exact (Option.some.inj h1).symm
theorem drop_eq {α : Type} {a b : List α} {i : Nat} (h : i < a.length) (h' : i < b.length) : a.drop i = b.drop i ↔ a[i] = b[i] ∧ a.drop (i + 1) = b.drop (i + 1) := by
 rw [List.drop_eq_getElem_cons h, List.drop_eq_getElem_cons h', List.cons.injEq]
theorem eqBytes_l0 (a b : List Int) (hl : a.length = b.length) (hm : a.length < 9223372036854775807) : ∀ (d i : Nat), i + d = a.length → EvB (fun k => zaT.l0 k a b (i : Int)) (a.drop i = b.drop i)
 | 0, i, h => EvB.step (EvB.yes (by rw [List.drop_eq_nil_of_le (by omega), List.drop_eq_nil_of_le (by omega)])) (fun k => by rw [zaT.l0, if_neg (by omega)])
 | d + 1, i, h => by
  rw [drop_eq (by omega) (by omega), ← rd_get a i (by omega), ← rd_get b i (by omega)]
  by_cases e : rd a (i : Int) = rd b (i : Int)
  ·refine EvB.step ((eqBytes_l0 a b hl hm d (i + 1) (by omega)).iff ⟨fun h => ⟨e, h⟩, And.right⟩) (fun k => ?_)
   rw [zaT.l0, if_pos (by omega), if_pos (by omega), if_pos (by omega), if_pos e, up64 (by omega)]
  ·refine EvB.step (EvB.no (fun h => e h.1)) (fun k => ?_)
   rw [zaT.l0, if_pos (by omega), if_pos (by omega), if_pos (by omega), if_neg e]
theorem eqBytes (a b : List Int) (hm : a.length < 9223372036854775807) : EvB (fun k => zaT.f k a b) (a = b) := by
 by_cases hl : a.length = b.length
 ·exact ((eqBytes_l0 a b hl hm a.length 0 (by omega)).iff (by simp)).congr (fun k => by unfold zaT.f; rw [if_pos (by omega)]; rfl)
 ·exact (EvB.no (fun e => hl (by rw [e]))).congr (fun k => by unfold zaT.f; rw [if_neg (by omega)])
theorem name_ext (x y : S50) : x = y ↔ x.f0 = y.f0 ∧ x.f1 = y.f1 := by
 cases x; cases y; simp
theorem eqNames_l0 (a b : List S50) (hl : a.length = b.length) (hm : a.length < 9223372036854775807) : ∀ (d i : Nat), i + d = a.length → EvB (fun k => zaI.l0 k a b (i : Int)) (a.drop i = b.drop i)
 | 0, i, h => EvB.step (EvB.yes (by rw [List.drop_eq_nil_of_le (by omega), List.drop_eq_nil_of_le (by omega)])) (fun k => by rw [zaI.l0, if_neg (by omega)])
 | d + 1, i, h => by
  rw [drop_eq (by omega) (by omega), ← zbY a i (by omega), ← zbY b i (by omega)]
  by_cases e : zau a (i : Int) = zau b (i : Int)
  ·refine EvB.step ((eqNames_l0 a b hl hm d (i + 1) (by omega)).iff ⟨fun h => ⟨e, h⟩, And.right⟩) (fun k => ?_)
   rw [zaI.l0, if_pos (by omega), if_pos (by omega), if_pos (by omega), if_neg (by rw [e]; simp), up64 (by omega)]
  ·refine EvB.step (EvB.no (fun h => e h.1)) (fun k => ?_)
   rw [zaI.l0, if_pos (by omega), if_pos (by omega), if_pos (by omega), if_pos]
   rw [name_ext] at e
   rw [Bool.or_eq_true, Bool.not_eq_true', Bool.not_eq_true', beq_eq_false_iff_ne, beq_eq_false_iff_ne, Ne, Ne, bytes_eq]
   exact Decidable.or_iff_not_imp_left.2 fun h1 h2 => e ⟨Decidable.not_not.1 h1, h2⟩
theorem eqNames (a b : List S50) (hm : a.length < 9223372036854775807) : EvB (fun k => zaI.f k a b) (a = b) := by
 by_cases hl : a.length = b.length
 ·exact ((eqNames_l0 a b hl hm a.length 0 (by omega)).iff (by simp)).congr (fun k => by unfold zaI.f; rw [if_pos (by omega)]; rfl)
 ·exact (EvB.no (fun e => hl (by rw [e]))).congr (fun k => by unfold zaI.f; rw [if_neg (by omega)])
def eqNodeF (k : Nat) (x y : S40) : Option Bool := zaL.f k x.f0 x.f1 x.f2 x.f3 x.f4 x.f5 y.f0 y.f1 y.f2 y.f3 y.f4 y.f5
theorem node_ext (x y : S40) : x = y ↔ x.f0 = y.f0 ∧ x.f1 = y.f1 ∧ x.f2 = y.f2 ∧ x.f3 = y.f3 ∧ x.f4 = y.f4 ∧ x.f5 = y.f5 := by
 cases x; cases y; simp
def FitsN (x : S40) : Prop := x.f1.length < 140737488355328 ∧ x.f2.length < 5864062014805
theorem eqNode (x y : S40) (hx : FitsN x) : EvB (fun k => eqNodeF k x y) (x = y) := by
 rw [node_ext]
 unfold eqNodeF zaL.f
 by_cases h0 : x.f0 = y.f0
 ·refine EvB.iff (P := x.f1 = y.f1 ∧ x.f2 = y.f2 ∧ x.f3 = y.f3 ∧ x.f4 = y.f4 ∧ x.f5 = y.f5) ?_ ⟨fun h => ⟨h0, h⟩, And.right⟩
  refine (EvB.and (eqBytes x.f1 y.f1 (by have := hx.1; omega)) (fun _ => EvB.and (eqNames x.f2 y.f2 (by have := hx.2; omega)) (fun _ => ?_))).congr (fun k => by rw [if_pos h0])
  by_cases h3 : x.f3.toList = y.f3.toList
  ·by_cases h4 : x.f4 = y.f4
   ·exact ((EvB.now (x.f5 == y.f5)).iff ⟨fun h => ⟨bytes_eq.1 h3, h4, beq_iff_eq.1 h⟩, fun h => beq_iff_eq.2 h.2.2⟩).congr (fun k => by rw [if_pos h3, if_pos h4])
   ·exact (EvB.no (fun h => h4 h.2.1)).congr (fun k => by rw [if_pos h3, if_neg h4])
  ·exact (EvB.no (fun h => h3 (bytes_eq.2 h.1))).congr (fun k => by rw [if_neg h3])
 ·exact (EvB.no (fun h => h0 h.1)).congr (fun k => by rw [if_neg h0])
theorem eqNodes_l0 (a b : List S40) (hl : a.length = b.length) (hm : a.length < 9223372036854775807) (hf : ∀ x ∈ a, FitsN x) : ∀ (d i : Nat), i + d = a.length → EvB (fun k => zay.l0 k a b (i : Int)) (a.drop i = b.drop i)
 | 0, i, h => EvB.step (EvB.yes (by rw [List.drop_eq_nil_of_le (by omega), List.drop_eq_nil_of_le (by omega)])) (fun k => by rw [zay.l0, if_neg (by omega)])
 | d + 1, i, h => by
  rw [drop_eq (by omega) (by omega), ← zcd a i (by omega), ← zcd b i (by omega)]
  have hx : FitsN (zah a (i : Int)) := by rw [zcd a i (by omega)]; exact hf _ (List.getElem_mem _)
  refine EvB.step (EvB.and (eqNode (zah a (i : Int)) (zah b (i : Int)) hx) (fun _ => eqNodes_l0 a b hl hm hf d (i + 1) (by omega))) (fun k => ?_)
  rw [zay.l0, if_pos (by omega), if_pos (by omega), if_pos (by omega), up64 (by omega)]; rfl
theorem eqNodes (a b : List S40) (hm : a.length < 9223372036854775807) (hf : ∀ x ∈ a, FitsN x) : EvB (fun k => zay.f k a b) (a = b) := by
 by_cases hl : a.length = b.length
 ·exact ((eqNodes_l0 a b hl hm hf a.length 0 (by omega)).iff (by simp)).congr (fun k => by unfold zay.f; rw [if_pos (by omega)]; rfl)
 ·exact (EvB.no (fun e => hl (by rw [e]))).congr (fun k => by unfold zay.f; rw [if_neg (by omega)])
theorem eqTree (a b : List S40) (hm : a.length < 9223372036854775807) (hf : ∀ x ∈ a, FitsN x) : EvB (fun k => za7.f k a b) (a = b) := (eqNodes a b hm hf).same
theorem take_next {α : Type} (a : List α) (i : Nat) (h : i < a.length) : a.take i ++ [a[i]] = a.take (i + 1) := by
 rw [List.take_succ_eq_append_getElem h]
theorem copyBytes_l0 (a : List Int) (hm : a.length < 140737488355328) : ∀ (d i : Nat), i + d = a.length → Ev (fun k => zaF.l0 k a (a.take i) (i : Int)) a
 | 0, i, h => Ev.step (f := fun _ => some a) (fun k => by rw [zaF.l0, if_neg (by omega), List.take_of_length_le (by omega)]) (Ev.now a)
 | d + 1, i, h => by
  refine Ev.step (fun k => ?_) (copyBytes_l0 a hm d (i + 1) (by omega))
  rw [zaF.l0, if_pos (by omega), if_pos (by omega), if_pos (by rw [List.length_take]; omega), up64 (by omega), rd_get a i (by omega), take_next a i (by omega)]
theorem copyBytes (a : List Int) (hm : a.length < 140737488355328) : Ev (fun k => zaF.f k a) a := copyBytes_l0 a hm a.length 0 (by omega)
theorem copyNames_l0 (a : List S50) (hm : a.length < 5864062014805) : ∀ (d i : Nat), i + d = a.length → Ev (fun k => zaC.l0 k a (a.take i) (i : Int)) a
 | 0, i, h => Ev.step (f := fun _ => some a) (fun k => by rw [zaC.l0, if_neg (by omega), List.take_of_length_le (by omega)]) (Ev.now a)
 | d + 1, i, h => by
  refine Ev.step (fun k => ?_) (copyNames_l0 a hm d (i + 1) (by omega))
  rw [zaC.l0, if_pos (by omega), if_pos (by omega), if_pos (by rw [List.length_take]; omega), up64 (by omega), zbY a i (by omega)]
  rw [show (⟨a[i].f0, a[i].f1⟩ : S50) = a[i] from rfl, take_next a i (by omega)]
theorem copyNames (a : List S50) (hm : a.length < 5864062014805) : Ev (fun k => zaC.f k a) a := copyNames_l0 a hm a.length 0 (by omega)
theorem copyNode (x : S40) (hx : FitsN x) : Ev (fun k => zbB.f k x.f0 x.f1 x.f2 x.f3 x.f4 x.f5) (x.f0, x.f1, x.f2, x.f3, x.f4, x.f5) :=
 Ev.bind (f := fun k t => (zaC.f k x.f2).bind fun u => some (x.f0, t, u, x.f3, x.f4, x.f5)) (copyBytes x.f1 hx.1) (Ev.bind (f := fun _ u => some (x.f0, x.f1, u, x.f3, x.f4, x.f5)) (copyNames x.f2 hx.2) (Ev.now _))
theorem copyNodes_l0 (a : List S40) (hm : a.length < 1599289640401) (hf : ∀ x ∈ a, FitsN x) : ∀ (d i : Nat), i + d = a.length → Ev (fun k => zaE.l0 k a (a.take i) (i : Int)) a
 | 0, i, h => Ev.step (f := fun _ => some a) (fun k => by rw [zaE.l0, if_neg (by omega), List.take_of_length_le (by omega)]) (Ev.now a)
 | d + 1, i, h => by
  have hx : FitsN (zah a (i : Int)) := by rw [zcd a i (by omega)]; exact hf _ (List.getElem_mem _)
  refine Ev.step (fun k => ?_) (Ev.bind (f := fun k q => zaE.l0 k a (a.take i ++ [(⟨q.1, q.2.1, q.2.2.1, q.2.2.2.1, q.2.2.2.2.1, q.2.2.2.2.2⟩ : S40)]) ((i + 1 : Nat) : Int)) (copyNode (zah a (i : Int)) hx) ?_)
  ·rw [zaE.l0, if_pos (by omega), if_pos (by omega)]
   congr 1; funext q
   rw [if_pos (by rw [List.length_take]; omega), up64 (by omega)]
  ·refine Ev.congr (fun k => ?_) (copyNodes_l0 a hm hf d (i + 1) (by omega))
   rw [zcd a i (by omega)]
   show zaE.l0 k a (a.take i ++ [a[i]]) _ = _
   rw [take_next a i (by omega)]
theorem copyNodes (a : List S40) (hm : a.length < 1599289640401) (hf : ∀ x ∈ a, FitsN x) : Ev (fun k => zaE.f k a) a := copyNodes_l0 a hm hf a.length 0 (by omega)
theorem copyTree (a : List S40) (hm : a.length < 1599289640401) (hf : ∀ x ∈ a, FitsN x) : Ev (fun k => za1.f k a) a :=
 Ev.bind (f := fun _ t => some t) (copyNodes a hm hf) (Ev.now a)
def zaN.l0 : Nat → ByteArray → Int → Option (Bool)
 | 0, _, _ => none
 | k + 1, x0, x3 => if x3 < (x0.size : Int) then (if 0 ≤ x3 then (if (bt x0 x3) = 0 then (some true) else (zaN.l0 k x0 (wrap64 (x3 + 1)))) else (none)) else (some false)
def zaN.f (k : Nat) (a0 : ByteArray) : Option (Bool) := zaN.l0 k a0 0
set_option maxHeartbeats 8000000 in
set_option maxRecDepth 100000 in
theorem zaN.calls (k : Nat) (a0 : ByteArray) (r : Bool) (w : World) (h : zaN.f k a0 = some r) :
  Calls Tryz.prog 59 #[.string a0] w fun e w' => e = .returned (.bool r) ∧ zaQ w w' := by
 have H : (zaN.l0 k a0 0) = some r := h
 clear h
 have H' := zaa.mk H
 clear H
 go_enter Tryz.func59, Tryz.ntmps59
 go_wp2
 go_loopg [3] k (fun kq v3 w' => ∃ (x3_1 : Int), v3 = .int .i64 x3_1 ∧ zaa (zaN.l0 kq a0 x3_1 = some r) ∧ zaa (kq ≤ k) ∧ zaQ w w')
 case atStart => exact ⟨(0), (by first | rfl | (simp; done) | (simp [*]; done)), H', ⟨Nat.le_refl _⟩, by repeat (first | exact zaQ.refl _ | apply zaQ.step)⟩
 case round =>
  clear H'
  obtain ⟨x3_1, rfl, HA, HK1, ⟨m1, rfl⟩⟩ := hrel
  cases gk with
  | zero => exact absurd HA.out (by simp [zaN.l0])
  | succ k1 =>
   have H := HA.out
   clear HA
   simp only [zaN.l0] at H
   by_cases c2 : x3_1 < (a0.size : Int)
   ·rw [if_pos c2] at H
    have c2b0 : decide (x3_1 < (a0.size : Int)) = true := decide_eq_true c2
    clear c2
    by_cases c3 : 0 ≤ x3_1
    ·rw [if_pos c3] at H
     have c3b0 : decide (0 ≤ x3_1) = true := decide_eq_true c3
     clear c3
     by_cases c5 : (bt a0 x3_1) = 0
     ·rw [if_pos c5] at H
      have c5b0 : ((bt a0 x3_1) == 0) = true := beq_iff_eq.mpr c5
      have c5b1 : ((bt a0 x3_1) != 0) = false := bne_eq_false_iff_eq.mpr c5
      clear c5
      obtain rfl := Option.some.inj H
      have p4 : 0 ≤ (x3_1 : Int) := of_decide_eq_true (by first | (with_reducible assumption) | assumption)
      have q4 : x3_1 < (a0.size : Int) := of_decide_eq_true (by first | (with_reducible assumption) | assumption)
      have hx4 := bt_at a0 x3_1
      replace p4 := eq_true p4
      replace q4 := eq_true q4
      go_wp2
      go_ret
      exact ⟨by first | rfl | (simp; done) | (simp [*]; done), by repeat (first | exact zaQ.refl _ | apply zaQ.step)⟩
     ·rw [if_neg c5] at H
      have c5b0 : ((bt a0 x3_1) == 0) = false := beq_eq_false_iff_ne.mpr c5
      have c5b1 : ((bt a0 x3_1) != 0) = true := bne_iff_ne.mpr c5
      have H' := zaa.mk H
      clear H
      have p4 : 0 ≤ (x3_1 : Int) := of_decide_eq_true (by first | (with_reducible assumption) | assumption)
      have q4 : x3_1 < (a0.size : Int) := of_decide_eq_true (by first | (with_reducible assumption) | assumption)
      have hx4 := bt_at a0 x3_1
      replace p4 := eq_true p4
      replace q4 := eq_true q4
      go_wp2
      go_roundg k1
      case measure => have := HK1.out; omega
      case rel => exact ⟨(wrap64 (x3_1 + 1)), (by first | rfl | (simp; done) | (simp [*]; done)), H', ⟨by have := HK1.out; omega⟩, by repeat (first | exact zaQ.refl _ | apply zaQ.step)⟩
    ·rw [if_neg c3] at H
     exact absurd H (by simp)
   ·rw [if_neg c2] at H
    have c2b0 : decide (x3_1 < (a0.size : Int)) = false := decide_eq_false c2
    clear c2
    obtain rfl := Option.some.inj H
    go_wp2
    go_ret
    exact ⟨by first | rfl | (simp; done) | (simp [*]; done), by repeat (first | exact zaQ.refl _ | apply zaQ.step)⟩
mutual
def zat.j0 : Nat → ByteArray → Bool → Option (Int)
 | 0, _, _ => none
 | k + 1, x0, x17 => if x17 = true then (some 28) else (zat.l0 k x0 0)
def zat.l0 : Nat → ByteArray → Int → Option (Int)
 | 0, _, _ => none
 | k + 1, x0, x3 => if x3 < (x0.size : Int) then (if 0 ≤ x3 then (if (bt x0 x3) = 47 then (some 28) else (zat.l0 k x0 (wrap64 (x3 + 1)))) else (none)) else (if (x0.size : Int) > 64 then (some 37) else (some 0))
end
def zat.f (k : Nat) (a0 : ByteArray) : Option (Int) := if a0.toList = ([] : List UInt8) then (zat.j0 k a0 true) else (if a0.toList = ([46] : List UInt8) then (zat.j0 k a0 true) else (if a0.toList = ([46, 46] : List UInt8) then (zat.j0 k a0 true) else ((zaN.f k a0).bind fun t148 => (zat.j0 k a0 t148))))
set_option maxHeartbeats 8000000 in
set_option maxRecDepth 100000 in
theorem zat.calls (k : Nat) (a0 : ByteArray) (r : Int) (w : World) (h : zat.f k a0 = some r) :
  Calls Tryz.prog 52 #[.string a0] w fun e w' => e = .returned (.int .i64 r) ∧ zaQ w w' := by
 have H : (if a0.toList = ([] : List UInt8) then (zat.j0 k a0 true) else (if a0.toList = ([46] : List UInt8) then (zat.j0 k a0 true) else (if a0.toList = ([46, 46] : List UInt8) then (zat.j0 k a0 true) else ((zaN.f k a0).bind fun t148 => (zat.j0 k a0 t148))))) = some r := h
 clear h
 have HC2 := zaa.mk H
 clear H
 go_enter Tryz.func52, Tryz.ntmps52
 go_upto_region 1 with (fail)
 go_cut [17] (fun v17 wc => ∃ (kq : Nat) (x17_1 : Bool), v17 = .bool x17_1 ∧ zaa (zat.j0 kq a0 x17_1 = some r) ∧ zaa (kq ≤ k) ∧ zaQ w wc)
 case first =>
  have H := HC2.out
  clear HC2
  by_cases c3 : a0.toList = ([] : List UInt8)
  ·rw [if_pos c3] at H
   have c3b0 : (a0.toList == ([] : List UInt8)) = true := beq_iff_eq.mpr c3
   have c3b1 : (a0.toList != ([] : List UInt8)) = false := bne_eq_false_iff_eq.mpr c3
   clear c3
   (first | rw [c3b0] | (simp only [zbo, zbr]; rw [c3b0]) | skip)
   have H' := zaa.mk H
   clear H
   go_wp2
   go_meet
   case rel => exact ⟨_, (true), (by first | rfl | (simp; done) | (simp [*]; done)), H', ⟨by first | omega | exact Nat.le_refl _⟩, by repeat (first | exact zaQ.refl _ | apply zaQ.step)⟩
  ·rw [if_neg c3] at H
   have c3b0 : (a0.toList == ([] : List UInt8)) = false := beq_eq_false_iff_ne.mpr c3
   have c3b1 : (a0.toList != ([] : List UInt8)) = true := bne_iff_ne.mpr c3
   (first | rw [c3b0] | (simp only [zbo, zbr]; rw [c3b0]) | skip)
   by_cases c4 : a0.toList = ([46] : List UInt8)
   ·rw [if_pos c4] at H
    have c4b0 : (a0.toList == ([46] : List UInt8)) = true := beq_iff_eq.mpr c4
    have c4b1 : (a0.toList != ([46] : List UInt8)) = false := bne_eq_false_iff_eq.mpr c4
    clear c4
    have H' := zaa.mk H
    clear H
    go_wp2
    go_meet
    case rel => exact ⟨_, (true), (by first | rfl | (simp; done) | (simp [*]; done)), H', ⟨by first | omega | exact Nat.le_refl _⟩, by repeat (first | exact zaQ.refl _ | apply zaQ.step)⟩
   ·rw [if_neg c4] at H
    have c4b0 : (a0.toList == ([46] : List UInt8)) = false := beq_eq_false_iff_ne.mpr c4
    have c4b1 : (a0.toList != ([46] : List UInt8)) = true := bne_iff_ne.mpr c4
    by_cases c5 : a0.toList = ([46, 46] : List UInt8)
    ·rw [if_pos c5] at H
     have c5b0 : (a0.toList == ([46, 46] : List UInt8)) = true := beq_iff_eq.mpr c5
     have c5b1 : (a0.toList != ([46, 46] : List UInt8)) = false := bne_eq_false_iff_eq.mpr c5
     clear c5
     have H' := zaa.mk H
     clear H
     go_wp2
     go_meet
     case rel => exact ⟨_, (true), (by first | rfl | (simp; done) | (simp [*]; done)), H', ⟨by first | omega | exact Nat.le_refl _⟩, by repeat (first | exact zaQ.refl _ | apply zaQ.step)⟩
    ·rw [if_neg c5] at H
     have c5b0 : (a0.toList == ([46, 46] : List UInt8)) = false := beq_eq_false_iff_ne.mpr c5
     have c5b1 : (a0.toList != ([46, 46] : List UInt8)) = true := bne_iff_ne.mpr c5
     replace H := Option.bind_eq_some_iff.mp H
     obtain ⟨t148, A60, H⟩ := H
     replace H : (zat.j0 k a0 t148) = some r := H
     have A6 := zaa.mk A60
     clear A60
     have H' := zaa.mk H
     clear H
     go_wp2_with (first | (go_at_call 59; (with_reducible refine (zaN.calls k a0 t148 _ A6.out).mono ?_); rintro e w' ⟨rfl, ⟨nd, rfl⟩⟩))
     go_meet
     case rel => exact ⟨_, (t148), (by first | rfl | (simp; done) | (simp [*]; done)), H', ⟨by first | omega | exact Nat.le_refl _⟩, by repeat (first | exact zaQ.refl _ | apply zaQ.step)⟩
 case rest =>
  clear HC2
  obtain ⟨kq, x17_1, rfl, HA, HJ1, ⟨mc1, rfl⟩⟩ := hcut
  cases kq with
  | zero => exact absurd HA.out (by simp [zat.j0])
  | succ kj1 =>
   have H := HA.out
   clear HA
   simp only [zat.j0] at H
   by_cases c7 : x17_1 = true
   ·subst c7
    have H1 : (some 28) = some r := by rw [if_pos rfl] at H; exact H
    clear H
    have H := H1
    clear H1
    obtain rfl := Option.some.inj H
    go_wp2
    go_ret
    exact ⟨by first | rfl | (simp; done) | (simp [*]; done), by repeat (first | exact zaQ.refl _ | apply zaQ.step)⟩
   ·replace c7 := Bool.eq_false_iff.mpr c7
    subst c7
    have H1 : (zat.l0 kj1 a0 0) = some r := by rw [if_neg (show ¬ (false = true) by decide)] at H; exact H
    clear H
    have H := H1
    clear H1
    have H' := zaa.mk H
    clear H
    go_wp2
    go_loopg [3] kj1 (fun kq v3 w' => ∃ (x3_2 : Int), v3 = .int .i64 x3_2 ∧ zaa (zat.l0 kq a0 x3_2 = some r) ∧ zaa (kq ≤ kj1) ∧ zaQ w w')
    case atStart => exact ⟨(0), (by first | rfl | (simp; done) | (simp [*]; done)), H', ⟨Nat.le_refl _⟩, by repeat (first | exact zaQ.refl _ | apply zaQ.step)⟩
    case round =>
     clear H'
     try clear c7
     obtain ⟨x3_2, rfl, HA, HK2, ⟨m2, rfl⟩⟩ := hrel
     cases gk with
     | zero => exact absurd HA.out (by simp [zat.l0])
     | succ k2 =>
      have H := HA.out
      clear HA
      simp only [zat.l0] at H
      by_cases c8 : x3_2 < (a0.size : Int)
      ·rw [if_pos c8] at H
       have c8b0 : decide (x3_2 < (a0.size : Int)) = true := decide_eq_true c8
       clear c8
       by_cases c9 : 0 ≤ x3_2
       ·rw [if_pos c9] at H
        have c9b0 : decide (0 ≤ x3_2) = true := decide_eq_true c9
        clear c9
        by_cases c11 : (bt a0 x3_2) = 47
        ·rw [if_pos c11] at H
         have c11b0 : ((bt a0 x3_2) == 47) = true := beq_iff_eq.mpr c11
         have c11b1 : ((bt a0 x3_2) != 47) = false := bne_eq_false_iff_eq.mpr c11
         clear c11
         obtain rfl := Option.some.inj H
         have p10 : 0 ≤ (x3_2 : Int) := of_decide_eq_true (by first | (with_reducible assumption) | assumption)
         have q10 : x3_2 < (a0.size : Int) := of_decide_eq_true (by first | (with_reducible assumption) | assumption)
         have hx10 := bt_at a0 x3_2
         replace p10 := eq_true p10
         replace q10 := eq_true q10
         go_wp2
         go_ret
         exact ⟨by first | rfl | (simp; done) | (simp [*]; done), by repeat (first | exact zaQ.refl _ | apply zaQ.step)⟩
        ·rw [if_neg c11] at H
         have c11b0 : ((bt a0 x3_2) == 47) = false := beq_eq_false_iff_ne.mpr c11
         have c11b1 : ((bt a0 x3_2) != 47) = true := bne_iff_ne.mpr c11
         have H' := zaa.mk H
         clear H
         have p10 : 0 ≤ (x3_2 : Int) := of_decide_eq_true (by first | (with_reducible assumption) | assumption)
         have q10 : x3_2 < (a0.size : Int) := of_decide_eq_true (by first | (with_reducible assumption) | assumption)
         have hx10 := bt_at a0 x3_2
         replace p10 := eq_true p10
         replace q10 := eq_true q10
         go_wp2
         go_roundg k2
         case measure => have := HJ1.out; have := HK2.out; omega
         case rel => exact ⟨(wrap64 (x3_2 + 1)), (by first | rfl | (simp; done) | (simp [*]; done)), H', ⟨by have := HJ1.out; have := HK2.out; omega⟩, by repeat (first | exact zaQ.refl _ | apply zaQ.step)⟩
       ·rw [if_neg c9] at H
        exact absurd H (by simp)
      ·rw [if_neg c8] at H
       have c8b0 : decide (x3_2 < (a0.size : Int)) = false := decide_eq_false c8
       clear c8
       by_cases c12 : (a0.size : Int) > 64
       ·rw [if_pos c12] at H
        have c12b0 : decide (64 < (a0.size : Int)) = true := decide_eq_true c12
        have c12b1 : decide (64 < a0.size) = true := decide_eq_true (by omega)
        clear c12
        obtain rfl := Option.some.inj H
        go_wp2
        go_ret
        exact ⟨by first | rfl | (simp; done) | (simp [*]; done), by repeat (first | exact zaQ.refl _ | apply zaQ.step)⟩
       ·rw [if_neg c12] at H
        have c12b0 : decide (64 < (a0.size : Int)) = false := decide_eq_false c12
        have c12b1 : decide (64 < a0.size) = false := decide_eq_false (by omega)
        clear c12
        obtain rfl := Option.some.inj H
        go_wp2
        go_ret
        exact ⟨by first | rfl | (simp; done) | (simp [*]; done), by repeat (first | exact zaQ.refl _ | apply zaQ.step)⟩
def zba.l0 : Nat → Int → ByteArray → Int → List (S40) → Option (Int)
 | 0, _, _, _, _ => none
 | k + 1, x1, x2, x7, x180000 => if 0 ≤ x1 then (if x1 < (x180000.length : Int) then (if x7 < (((zah x180000 x1).f2).length : Int) then (if 0 ≤ x7 then (if ((zau ((zah x180000 x1).f2) x7).f0).toList = x2.toList then (some x7) else (zba.l0 k x1 x2 (wrap64 (x7 + 1)) x180000)) else (none)) else (some (-1))) else (none)) else (none)
def zba.f (k : Nat) (l0_0 : List (S40)) (a1 : Int) (a2 : ByteArray) : Option (Int) := zba.l0 k a1 a2 0 l0_0
set_option maxHeartbeats 8000000 in
set_option maxRecDepth 100000 in
theorem zba.calls (k : Nat) (A0_0 : Option Addr) (c0_0 : Nat) (l0_0 : List (S40)) (a1 : Int) (a2 : ByteArray) (r : Int) (w : World) (hr0_0 : Kd.C k40 w A0_0 l0_0.length l0_0) (hc0_0 : l0_0.length ≤ c0_0) (h : zba.f k l0_0 a1 a2 = some r) :
  Calls Tryz.prog 79 #[.agg #[.slice A0_0 l0_0.length c0_0], .int .i64 a1, .string a2] w fun e w' => e = .returned (.int .i64 r) ∧ Below w.heap.size w w' := by
 have hu24 := Tryz.underlying24
 have HR0_0 := zaa.mk hr0_0
 have HC0_0 := zaa.mk hc0_0
 clear hr0_0 hc0_0
 have HB := zaa.mk (Below.refl w.heap.size w)
 have H : (zba.l0 k a1 a2 0 l0_0) = some r := h
 clear h
 have H' := zaa.mk H
 clear H
 go_enter Tryz.func79, Tryz.ntmps79
 go_wp2_with (first | ((with_reducible refine zaS (N := 3) rfl ?_); refine zaG ?hg (N := 3) ?hd (cs := #[.slice A0_0 l0_0.length c0_0]) (t := 24) ?hr ?_; (case hd => rfl); (case hg => rfl); (case hr => first | (go_simp; done) | (go_simp; rfl)); intro gb179 hg w4 hbox hb; have n0_ := zaa.mk (zam (by repeat (first | (with_reducible first | exact HB.out | apply zad | apply zab | apply zae) | exact HB.out)) hb); have n1_ := zaa.mk (hbox); have n2_ := zaa.mk ((by rw [hg]; exact (zar (by repeat (first | (with_reducible first | exact HB.out | apply zad | apply zab | apply zae) | exact HB.out))) : w.heap.size ≤ gb179)); have n3_ := zaa.mk ((by rw [hg]; exact (zar (by repeat (first | (with_reducible first | exact HB.out | apply zad | apply zab | apply zae) | exact HB.out))) : w.heap.size ≤ gb179)); clear HB; have HB := n0_; have BK179 := n1_; have GW179 := n2_; have GE179 := n3_; clear n0_ n1_ n2_ n3_; clear hb hbox hg))
 go_loopg [7] k (fun kq v7 w' => ∃ (x7_1 : Int), v7 = .int .i64 x7_1 ∧ zaa (zba.l0 kq a1 a2 x7_1 l0_0 = some r) ∧ zaa (kq ≤ k) ∧ zaa (w'.heap[gb179]? = some (.cells #[(.slice A0_0 l0_0.length c0_0)] 24 (0, 0))) ∧ zaa (Below w.heap.size w w'))
 case atStart => exact ⟨(0), (by first | rfl | (simp; done) | (simp [*]; done)), H', ⟨Nat.le_refl _⟩, ⟨by (with_reducible repeat (first | refine zaj ?_ _ | refine zak ?_ | refine zai ?_ _)); exact BK179.out⟩, ⟨by repeat (first | (with_reducible first | exact HB.out | apply zad | apply zab | apply zae | refine zal ?_ GE179.out) | exact HB.out)⟩⟩
 case round =>
  clear H'
  obtain ⟨x7_1, rfl, HA, HK1, BK179, HB⟩ := hrel
  cases gk with
  | zero => exact absurd HA.out (by simp [zba.l0])
  | succ k1 =>
   have H := HA.out
   clear HA
   simp only [zba.l0] at H
   by_cases c5 : 0 ≤ a1
   ·rw [if_pos c5] at H
    have c5b0 : decide (0 ≤ a1) = true := decide_eq_true c5
    clear c5
    by_cases c6 : a1 < (l0_0.length : Int)
    ·rw [if_pos c6] at H
     have c6b0 : decide (a1 < (l0_0.length : Int)) = true := decide_eq_true c6
     clear c6
     by_cases c7 : x7_1 < (((zah l0_0 a1).f2).length : Int)
     ·rw [if_pos c7] at H
      have c7b0 : decide (x7_1 < (((zah l0_0 a1).f2).length : Int)) = true := decide_eq_true c7
      clear c7
      by_cases c8 : 0 ≤ x7_1
      ·rw [if_pos c8] at H
       have c8b0 : decide (0 ≤ x7_1) = true := decide_eq_true c8
       clear c8
       by_cases c9 : ((zau ((zah l0_0 a1).f2) x7_1).f0).toList = a2.toList
       ·rw [if_pos c9] at H
        have c9b0 : (((zau ((zah l0_0 a1).f2) x7_1).f0).toList == a2.toList) = true := beq_iff_eq.mpr c9
        have c9b1 : (((zau ((zah l0_0 a1).f2) x7_1).f0).toList != a2.toList) = false := bne_eq_false_iff_eq.mpr c9
        clear c9
        obtain rfl := Option.some.inj H
        have hcz10_0 := (zac BK179.out 0).trans rfl
        have hfz10_0 := zaf BK179.out 0
        have p180 : 0 ≤ (a1 : Int) := of_decide_eq_true (by first | (with_reducible assumption) | assumption)
        have q180 : a1 < (l0_0.length : Int) := of_decide_eq_true (by first | (with_reducible assumption) | assumption)
        obtain ⟨ad180, A180_1, c180_1, A180_2, c180_2, e180, hx180_0, hx180_1, hx180_2, hx180_3, hx180_4, hx180_5, hl180_1, hi180_1, hl180_2, hi180_2⟩ := zbc HR0_0.out a1 p180 q180
        cases e180
        replace hx180_0 := (HB.out.cell (World.block_lt_of_cell? w _ hx180_0)).trans hx180_0
        replace hx180_1 := (HB.out.cell (World.block_lt_of_cell? w _ hx180_1)).trans hx180_1
        replace hx180_2 := (HB.out.cell (World.block_lt_of_cell? w _ hx180_2)).trans hx180_2
        replace hx180_3 := (HB.out.cell (World.block_lt_of_cell? w _ hx180_3)).trans hx180_3
        replace hx180_4 := (HB.out.cell (World.block_lt_of_cell? w _ hx180_4)).trans hx180_4
        replace hx180_5 := (HB.out.cell (World.block_lt_of_cell? w _ hx180_5)).trans hx180_5
        have HR180_1 := zaa.mk hi180_1
        have HC180_1 := zaa.mk hl180_1
        clear hi180_1 hl180_1
        have HR180_2 := zaa.mk hi180_2
        have HC180_2 := zaa.mk hl180_2
        clear hi180_2 hl180_2
        replace p180 := eq_true p180
        replace q180 := eq_true q180
        have p181 : 0 ≤ (a1 : Int) := of_decide_eq_true (by first | (with_reducible assumption) | assumption)
        have q181 : a1 < (l0_0.length : Int) := of_decide_eq_true (by first | (with_reducible assumption) | assumption)
        obtain ⟨ad181, A181_1, c181_1, A181_2, c181_2, e181, hx181_0, hx181_1, hx181_2, hx181_3, hx181_4, hx181_5, hl181_1, hi181_1, hl181_2, hi181_2⟩ := zbc HR0_0.out a1 p181 q181
        obtain rfl : ad180 = ad181 := (by injection e181)
        replace hx181_0 := (HB.out.cell (World.block_lt_of_cell? w _ hx181_0)).trans hx181_0
        replace hx181_1 := (HB.out.cell (World.block_lt_of_cell? w _ hx181_1)).trans hx181_1
        replace hx181_2 := (HB.out.cell (World.block_lt_of_cell? w _ hx181_2)).trans hx181_2
        replace hx181_3 := (HB.out.cell (World.block_lt_of_cell? w _ hx181_3)).trans hx181_3
        replace hx181_4 := (HB.out.cell (World.block_lt_of_cell? w _ hx181_4)).trans hx181_4
        replace hx181_5 := (HB.out.cell (World.block_lt_of_cell? w _ hx181_5)).trans hx181_5
        have HR181_1 := zaa.mk hi181_1
        have HC181_1 := zaa.mk hl181_1
        clear hi181_1 hl181_1
        have HR181_2 := zaa.mk hi181_2
        have HC181_2 := zaa.mk hl181_2
        clear hi181_2 hl181_2
        replace p181 := eq_true p181
        replace q181 := eq_true q181
        have ea_ := Option.some.inj (hx180_1.symm.trans hx181_1)
        injection ea_ with ea_ en_ ec_
        subst ea_
        subst ec_
        clear en_
        have ea_ := Option.some.inj (hx180_2.symm.trans hx181_2)
        injection ea_ with ea_ en_ ec_
        subst ea_
        subst ec_
        clear en_
        have p182 : 0 ≤ (x7_1 : Int) := of_decide_eq_true (by first | (with_reducible assumption) | assumption)
        have q182 : x7_1 < (((zah l0_0 a1).f2).length : Int) := of_decide_eq_true (by first | (with_reducible assumption) | assumption)
        obtain ⟨ad182, e182, hx182_0, hx182_1⟩ := zb4 HR181_2.out x7_1 p182 q182
        cases e182
        replace hx182_0 := (HB.out.cell (World.block_lt_of_cell? w _ hx182_0)).trans hx182_0
        replace hx182_1 := (HB.out.cell (World.block_lt_of_cell? w _ hx182_1)).trans hx182_1
        replace p182 := eq_true p182
        replace q182 := eq_true q182
        go_wp2
        go_ret
        exact ⟨by first | rfl | (simp [zaw, zav] <;> rfl) | (simp [*, zaw, zav] <;> rfl), by repeat (first | (with_reducible first | exact HB.out | apply zad | apply zab | apply zae | refine zal ?_ GE179.out) | exact HB.out)⟩
       ·rw [if_neg c9] at H
        have c9b0 : (((zau ((zah l0_0 a1).f2) x7_1).f0).toList == a2.toList) = false := beq_eq_false_iff_ne.mpr c9
        have c9b1 : (((zau ((zah l0_0 a1).f2) x7_1).f0).toList != a2.toList) = true := bne_iff_ne.mpr c9
        have H' := zaa.mk H
        clear H
        have hcz11_0 := (zac BK179.out 0).trans rfl
        have hfz11_0 := zaf BK179.out 0
        have p180 : 0 ≤ (a1 : Int) := of_decide_eq_true (by first | (with_reducible assumption) | assumption)
        have q180 : a1 < (l0_0.length : Int) := of_decide_eq_true (by first | (with_reducible assumption) | assumption)
        obtain ⟨ad180, A180_1, c180_1, A180_2, c180_2, e180, hx180_0, hx180_1, hx180_2, hx180_3, hx180_4, hx180_5, hl180_1, hi180_1, hl180_2, hi180_2⟩ := zbc HR0_0.out a1 p180 q180
        cases e180
        replace hx180_0 := (HB.out.cell (World.block_lt_of_cell? w _ hx180_0)).trans hx180_0
        replace hx180_1 := (HB.out.cell (World.block_lt_of_cell? w _ hx180_1)).trans hx180_1
        replace hx180_2 := (HB.out.cell (World.block_lt_of_cell? w _ hx180_2)).trans hx180_2
        replace hx180_3 := (HB.out.cell (World.block_lt_of_cell? w _ hx180_3)).trans hx180_3
        replace hx180_4 := (HB.out.cell (World.block_lt_of_cell? w _ hx180_4)).trans hx180_4
        replace hx180_5 := (HB.out.cell (World.block_lt_of_cell? w _ hx180_5)).trans hx180_5
        have HR180_1 := zaa.mk hi180_1
        have HC180_1 := zaa.mk hl180_1
        clear hi180_1 hl180_1
        have HR180_2 := zaa.mk hi180_2
        have HC180_2 := zaa.mk hl180_2
        clear hi180_2 hl180_2
        replace p180 := eq_true p180
        replace q180 := eq_true q180
        have p181 : 0 ≤ (a1 : Int) := of_decide_eq_true (by first | (with_reducible assumption) | assumption)
        have q181 : a1 < (l0_0.length : Int) := of_decide_eq_true (by first | (with_reducible assumption) | assumption)
        obtain ⟨ad181, A181_1, c181_1, A181_2, c181_2, e181, hx181_0, hx181_1, hx181_2, hx181_3, hx181_4, hx181_5, hl181_1, hi181_1, hl181_2, hi181_2⟩ := zbc HR0_0.out a1 p181 q181
        obtain rfl : ad180 = ad181 := (by injection e181)
        replace hx181_0 := (HB.out.cell (World.block_lt_of_cell? w _ hx181_0)).trans hx181_0
        replace hx181_1 := (HB.out.cell (World.block_lt_of_cell? w _ hx181_1)).trans hx181_1
        replace hx181_2 := (HB.out.cell (World.block_lt_of_cell? w _ hx181_2)).trans hx181_2
        replace hx181_3 := (HB.out.cell (World.block_lt_of_cell? w _ hx181_3)).trans hx181_3
        replace hx181_4 := (HB.out.cell (World.block_lt_of_cell? w _ hx181_4)).trans hx181_4
        replace hx181_5 := (HB.out.cell (World.block_lt_of_cell? w _ hx181_5)).trans hx181_5
        have HR181_1 := zaa.mk hi181_1
        have HC181_1 := zaa.mk hl181_1
        clear hi181_1 hl181_1
        have HR181_2 := zaa.mk hi181_2
        have HC181_2 := zaa.mk hl181_2
        clear hi181_2 hl181_2
        replace p181 := eq_true p181
        replace q181 := eq_true q181
        have ea_ := Option.some.inj (hx180_1.symm.trans hx181_1)
        injection ea_ with ea_ en_ ec_
        subst ea_
        subst ec_
        clear en_
        have ea_ := Option.some.inj (hx180_2.symm.trans hx181_2)
        injection ea_ with ea_ en_ ec_
        subst ea_
        subst ec_
        clear en_
        have p182 : 0 ≤ (x7_1 : Int) := of_decide_eq_true (by first | (with_reducible assumption) | assumption)
        have q182 : x7_1 < (((zah l0_0 a1).f2).length : Int) := of_decide_eq_true (by first | (with_reducible assumption) | assumption)
        obtain ⟨ad182, e182, hx182_0, hx182_1⟩ := zb4 HR181_2.out x7_1 p182 q182
        cases e182
        replace hx182_0 := (HB.out.cell (World.block_lt_of_cell? w _ hx182_0)).trans hx182_0
        replace hx182_1 := (HB.out.cell (World.block_lt_of_cell? w _ hx182_1)).trans hx182_1
        replace p182 := eq_true p182
        replace q182 := eq_true q182
        go_wp2
        go_roundg k1
        case measure => have := HK1.out; omega
        case rel => exact ⟨(wrap64 (x7_1 + 1)), (by first | rfl | (simp; done) | (simp [*]; done)), H', ⟨by have := HK1.out; omega⟩, ⟨by (with_reducible repeat (first | refine zaj ?_ _ | refine zak ?_ | refine zai ?_ _)); exact BK179.out⟩, ⟨by repeat (first | (with_reducible first | exact HB.out | apply zad | apply zab | apply zae | refine zal ?_ GE179.out) | exact HB.out)⟩⟩
      ·rw [if_neg c8] at H
       exact absurd H (by simp)
     ·rw [if_neg c7] at H
      have c7b0 : decide (x7_1 < (((zah l0_0 a1).f2).length : Int)) = false := decide_eq_false c7
      clear c7
      obtain rfl := Option.some.inj H
      have hcz12_0 := (zac BK179.out 0).trans rfl
      have hfz12_0 := zaf BK179.out 0
      have p180 : 0 ≤ (a1 : Int) := of_decide_eq_true (by first | (with_reducible assumption) | assumption)
      have q180 : a1 < (l0_0.length : Int) := of_decide_eq_true (by first | (with_reducible assumption) | assumption)
      obtain ⟨ad180, A180_1, c180_1, A180_2, c180_2, e180, hx180_0, hx180_1, hx180_2, hx180_3, hx180_4, hx180_5, hl180_1, hi180_1, hl180_2, hi180_2⟩ := zbc HR0_0.out a1 p180 q180
      cases e180
      replace hx180_0 := (HB.out.cell (World.block_lt_of_cell? w _ hx180_0)).trans hx180_0
      replace hx180_1 := (HB.out.cell (World.block_lt_of_cell? w _ hx180_1)).trans hx180_1
      replace hx180_2 := (HB.out.cell (World.block_lt_of_cell? w _ hx180_2)).trans hx180_2
      replace hx180_3 := (HB.out.cell (World.block_lt_of_cell? w _ hx180_3)).trans hx180_3
      replace hx180_4 := (HB.out.cell (World.block_lt_of_cell? w _ hx180_4)).trans hx180_4
      replace hx180_5 := (HB.out.cell (World.block_lt_of_cell? w _ hx180_5)).trans hx180_5
      have HR180_1 := zaa.mk hi180_1
      have HC180_1 := zaa.mk hl180_1
      clear hi180_1 hl180_1
      have HR180_2 := zaa.mk hi180_2
      have HC180_2 := zaa.mk hl180_2
      clear hi180_2 hl180_2
      replace p180 := eq_true p180
      replace q180 := eq_true q180
      go_wp2
      go_ret
      exact ⟨by first | rfl | (simp [zaw, zav] <;> rfl) | (simp [*, zaw, zav] <;> rfl), by repeat (first | (with_reducible first | exact HB.out | apply zad | apply zab | apply zae | refine zal ?_ GE179.out) | exact HB.out)⟩
    ·rw [if_neg c6] at H
     exact absurd H (by simp)
   ·rw [if_neg c5] at H
    exact absurd H (by simp)
def zbN.f (k : Nat) (l0_0 : List (S40)) (a1 : Int) (a2 : ByteArray) : Option (Int) := if 0 ≤ a1 then (if a1 < (l0_0.length : Int) then (if ((zah l0_0 a1).f4) = 0 then (some 44) else ((zba.f k l0_0 a1 a2).bind fun t185 => (if t185 ≥ 0 then (some 20) else (if (((zah l0_0 a1).f2).length : Int) ≥ 64 then (some 51) else (some 0))))) else (none)) else (none)
set_option maxHeartbeats 8000000 in
set_option maxRecDepth 100000 in
theorem zbN.calls (k : Nat) (A0_0 : Option Addr) (c0_0 : Nat) (l0_0 : List (S40)) (a1 : Int) (a2 : ByteArray) (r : Int) (w : World) (hr0_0 : Kd.C k40 w A0_0 l0_0.length l0_0) (hc0_0 : l0_0.length ≤ c0_0) (h : zbN.f k l0_0 a1 a2 = some r) :
  Calls Tryz.prog 64 #[.agg #[.slice A0_0 l0_0.length c0_0], .int .i64 a1, .string a2] w fun e w' => e = .returned (.int .i64 r) ∧ Below w.heap.size w w' := by
 have hu24 := Tryz.underlying24
 have HR0_0 := zaa.mk hr0_0
 have HC0_0 := zaa.mk hc0_0
 clear hr0_0 hc0_0
 have HB := zaa.mk (Below.refl w.heap.size w)
 have H : (if 0 ≤ a1 then (if a1 < (l0_0.length : Int) then (if ((zah l0_0 a1).f4) = 0 then (some 44) else ((zba.f k l0_0 a1 a2).bind fun t185 => (if t185 ≥ 0 then (some 20) else (if (((zah l0_0 a1).f2).length : Int) ≥ 64 then (some 51) else (some 0))))) else (none)) else (none)) = some r := h
 clear h
 by_cases c4 : 0 ≤ a1
 ·rw [if_pos c4] at H
  have c4b0 : decide (0 ≤ a1) = true := decide_eq_true c4
  clear c4
  by_cases c5 : a1 < (l0_0.length : Int)
  ·rw [if_pos c5] at H
   have c5b0 : decide (a1 < (l0_0.length : Int)) = true := decide_eq_true c5
   clear c5
   by_cases c6 : ((zah l0_0 a1).f4) = 0
   ·rw [if_pos c6] at H
    have c6b0 : (((zah l0_0 a1).f4) == 0) = true := beq_iff_eq.mpr c6
    have c6b1 : (((zah l0_0 a1).f4) != 0) = false := bne_eq_false_iff_eq.mpr c6
    clear c6
    obtain rfl := Option.some.inj H
    go_enter Tryz.func64, Tryz.ntmps64
    go_wp2_with (first | ((with_reducible refine zaS (N := 3) rfl ?_); refine zaG ?hg (N := 3) ?hd (cs := #[.slice A0_0 l0_0.length c0_0]) (t := 24) ?hr ?_; (case hd => rfl); (case hg => rfl); (case hr => first | (go_simp; done) | (go_simp; rfl)); intro gb183 hg w7 hbox hb; have n0_ := zaa.mk (zam (by repeat (first | (with_reducible first | exact HB.out | apply zad | apply zab | apply zae) | exact HB.out)) hb); have n1_ := zaa.mk (hbox); have n2_ := zaa.mk ((by rw [hg]; exact (zar (by repeat (first | (with_reducible first | exact HB.out | apply zad | apply zab | apply zae) | exact HB.out))) : w.heap.size ≤ gb183)); have n3_ := zaa.mk ((by rw [hg]; exact (zar (by repeat (first | (with_reducible first | exact HB.out | apply zad | apply zab | apply zae) | exact HB.out))) : w.heap.size ≤ gb183)); clear HB; have HB := n0_; have BK183 := n1_; have GW183 := n2_; have GE183 := n3_; clear n0_ n1_ n2_ n3_; clear hb hbox hg; have hcz8_0 : w7.cell? ⟨gb183, 0, none⟩ = some (.slice A0_0 l0_0.length c0_0) := (zac BK183.out 0).trans rfl; have hfz8_0 := zaf BK183.out 0; have p184 : 0 ≤ (a1 : Int) := of_decide_eq_true (by first | (with_reducible assumption) | assumption); have q184 : a1 < (l0_0.length : Int) := of_decide_eq_true (by first | (with_reducible assumption) | assumption); obtain ⟨ad184, A184_1, c184_1, A184_2, c184_2, e184, hx184_0, hx184_1, hx184_2, hx184_3, hx184_4, hx184_5, hl184_1, hi184_1, hl184_2, hi184_2⟩ := zbc HR0_0.out a1 p184 q184; cases e184; replace hx184_0 := (HB.out.cell (World.block_lt_of_cell? w _ hx184_0)).trans hx184_0; replace hx184_1 := (HB.out.cell (World.block_lt_of_cell? w _ hx184_1)).trans hx184_1; replace hx184_2 := (HB.out.cell (World.block_lt_of_cell? w _ hx184_2)).trans hx184_2; replace hx184_3 := (HB.out.cell (World.block_lt_of_cell? w _ hx184_3)).trans hx184_3; replace hx184_4 := (HB.out.cell (World.block_lt_of_cell? w _ hx184_4)).trans hx184_4; replace hx184_5 := (HB.out.cell (World.block_lt_of_cell? w _ hx184_5)).trans hx184_5; have HR184_1 := zaa.mk hi184_1; have HC184_1 := zaa.mk hl184_1; clear hi184_1 hl184_1; have HR184_2 := zaa.mk hi184_2; have HC184_2 := zaa.mk hl184_2; clear hi184_2 hl184_2; replace p184 := eq_true p184; replace q184 := eq_true q184))
    go_ret
    exact ⟨by first | rfl | (simp [zaw, zav] <;> rfl) | (simp [*, zaw, zav] <;> rfl), by repeat (first | (with_reducible first | exact HB.out | apply zad | apply zab | apply zae | refine zal ?_ GE183.out) | exact HB.out)⟩
   ·rw [if_neg c6] at H
    have c6b0 : (((zah l0_0 a1).f4) == 0) = false := beq_eq_false_iff_ne.mpr c6
    have c6b1 : (((zah l0_0 a1).f4) != 0) = true := bne_iff_ne.mpr c6
    replace H := Option.bind_eq_some_iff.mp H
    obtain ⟨t185, A90, H⟩ := H
    replace H : (if t185 ≥ 0 then (some 20) else (if (((zah l0_0 a1).f2).length : Int) ≥ 64 then (some 51) else (some 0))) = some r := H
    have A9 := zaa.mk A90
    clear A90
    by_cases c10 : t185 ≥ 0
    ·rw [if_pos c10] at H
     have c10b0 : decide (0 ≤ t185) = true := decide_eq_true c10
     clear c10
     obtain rfl := Option.some.inj H
     go_enter Tryz.func64, Tryz.ntmps64
     go_wp2_with (first | ((with_reducible refine zaS (N := 3) rfl ?_); refine zaG ?hg (N := 3) ?hd (cs := #[.slice A0_0 l0_0.length c0_0]) (t := 24) ?hr ?_; (case hd => rfl); (case hg => rfl); (case hr => first | (go_simp; done) | (go_simp; rfl)); intro gb183 hg w11 hbox hb; have n0_ := zaa.mk (zam (by repeat (first | (with_reducible first | exact HB.out | apply zad | apply zab | apply zae) | exact HB.out)) hb); have n1_ := zaa.mk (hbox); have n2_ := zaa.mk ((by rw [hg]; exact (zar (by repeat (first | (with_reducible first | exact HB.out | apply zad | apply zab | apply zae) | exact HB.out))) : w.heap.size ≤ gb183)); have n3_ := zaa.mk ((by rw [hg]; exact (zar (by repeat (first | (with_reducible first | exact HB.out | apply zad | apply zab | apply zae) | exact HB.out))) : w.heap.size ≤ gb183)); clear HB; have HB := n0_; have BK183 := n1_; have GW183 := n2_; have GE183 := n3_; clear n0_ n1_ n2_ n3_; clear hb hbox hg; have hcz12_0 : w11.cell? ⟨gb183, 0, none⟩ = some (.slice A0_0 l0_0.length c0_0) := (zac BK183.out 0).trans rfl; have hfz12_0 := zaf BK183.out 0; have p184 : 0 ≤ (a1 : Int) := of_decide_eq_true (by first | (with_reducible assumption) | assumption); have q184 : a1 < (l0_0.length : Int) := of_decide_eq_true (by first | (with_reducible assumption) | assumption); obtain ⟨ad184, A184_1, c184_1, A184_2, c184_2, e184, hx184_0, hx184_1, hx184_2, hx184_3, hx184_4, hx184_5, hl184_1, hi184_1, hl184_2, hi184_2⟩ := zbc HR0_0.out a1 p184 q184; cases e184; replace hx184_0 := (HB.out.cell (World.block_lt_of_cell? w _ hx184_0)).trans hx184_0; replace hx184_1 := (HB.out.cell (World.block_lt_of_cell? w _ hx184_1)).trans hx184_1; replace hx184_2 := (HB.out.cell (World.block_lt_of_cell? w _ hx184_2)).trans hx184_2; replace hx184_3 := (HB.out.cell (World.block_lt_of_cell? w _ hx184_3)).trans hx184_3; replace hx184_4 := (HB.out.cell (World.block_lt_of_cell? w _ hx184_4)).trans hx184_4; replace hx184_5 := (HB.out.cell (World.block_lt_of_cell? w _ hx184_5)).trans hx184_5; have HR184_1 := zaa.mk hi184_1; have HC184_1 := zaa.mk hl184_1; clear hi184_1 hl184_1; have HR184_2 := zaa.mk hi184_2; have HC184_2 := zaa.mk hl184_2; clear hi184_2 hl184_2; replace p184 := eq_true p184; replace q184 := eq_true q184) | ((with_reducible refine zaY (f := 79) rfl ?_); refine zbI (some 17) rfl rfl Tryz.func79 (by kernel_rfl) rfl #[.agg #[.slice (some ad184) l0_0.length c0_0], .int .i64 a1, .string a2] rfl (by (try simp only [List.map_toArray, List.map_cons, List.map_nil]); first | done | rfl | (simp only [List.length_drop, List.length_take]; rfl)) ?_; (with_reducible refine (zba.calls k _ _ l0_0 a1 a2 t185 _ ?side1 ?side2 A9.out).mono ?_); (case side1 => repeat (first | exact (Kd.C_below HR0_0.out HB.out) | (with_reducible refine Kd.C_alloc ?_ _) | (with_reducible refine Kd.C_drewN ?_ _) | (with_reducible refine Kd.C_drew ?_))); (case side2 => exact HC0_0.out); rintro e w13 ⟨rfl, hb⟩; refine ⟨_, rfl, ?_⟩; have n0_ := zaa.mk (zan (g := gb183) (o := .cells #[.slice (some ad184) l0_0.length c0_0] 24 (0, 0)) (by (with_reducible repeat (first | refine zaj ?_ _ | refine zak ?_ | refine zai ?_ _)); exact BK183.out) hb); have n1_ := zaa.mk (zam (by repeat (first | (with_reducible first | exact HB.out | apply zad | apply zab | apply zae | refine zal ?_ GE183.out) | exact HB.out)) hb); clear BK183; clear HB; have BK183 := n0_; have HB := n1_; clear n0_ n1_; (try clear hb); (try clear hb2); (try clear hk); (try clear hi)))
     go_ret
     exact ⟨by first | rfl | (simp [zaw, zav] <;> rfl) | (simp [*, zaw, zav] <;> rfl), by repeat (first | (with_reducible first | exact HB.out | apply zad | apply zab | apply zae | refine zal ?_ GE183.out) | exact HB.out)⟩
    ·rw [if_neg c10] at H
     have c10b0 : decide (0 ≤ t185) = false := decide_eq_false c10
     clear c10
     by_cases c14 : (((zah l0_0 a1).f2).length : Int) ≥ 64
     ·rw [if_pos c14] at H
      have c14b0 : decide (64 ≤ (((zah l0_0 a1).f2).length : Int)) = true := decide_eq_true c14
      have c14b1 : decide (64 ≤ ((zah l0_0 a1).f2).length) = true := decide_eq_true (by omega)
      clear c14
      obtain rfl := Option.some.inj H
      go_enter Tryz.func64, Tryz.ntmps64
      go_wp2_with (first | ((with_reducible refine zaS (N := 3) rfl ?_); refine zaG ?hg (N := 3) ?hd (cs := #[.slice A0_0 l0_0.length c0_0]) (t := 24) ?hr ?_; (case hd => rfl); (case hg => rfl); (case hr => first | (go_simp; done) | (go_simp; rfl)); intro gb183 hg w15 hbox hb; have n0_ := zaa.mk (zam (by repeat (first | (with_reducible first | exact HB.out | apply zad | apply zab | apply zae) | exact HB.out)) hb); have n1_ := zaa.mk (hbox); have n2_ := zaa.mk ((by rw [hg]; exact (zar (by repeat (first | (with_reducible first | exact HB.out | apply zad | apply zab | apply zae) | exact HB.out))) : w.heap.size ≤ gb183)); have n3_ := zaa.mk ((by rw [hg]; exact (zar (by repeat (first | (with_reducible first | exact HB.out | apply zad | apply zab | apply zae) | exact HB.out))) : w.heap.size ≤ gb183)); clear HB; have HB := n0_; have BK183 := n1_; have GW183 := n2_; have GE183 := n3_; clear n0_ n1_ n2_ n3_; clear hb hbox hg; have hcz16_0 : w15.cell? ⟨gb183, 0, none⟩ = some (.slice A0_0 l0_0.length c0_0) := (zac BK183.out 0).trans rfl; have hfz16_0 := zaf BK183.out 0; have p184 : 0 ≤ (a1 : Int) := of_decide_eq_true (by first | (with_reducible assumption) | assumption); have q184 : a1 < (l0_0.length : Int) := of_decide_eq_true (by first | (with_reducible assumption) | assumption); obtain ⟨ad184, A184_1, c184_1, A184_2, c184_2, e184, hx184_0, hx184_1, hx184_2, hx184_3, hx184_4, hx184_5, hl184_1, hi184_1, hl184_2, hi184_2⟩ := zbc HR0_0.out a1 p184 q184; cases e184; replace hx184_0 := (HB.out.cell (World.block_lt_of_cell? w _ hx184_0)).trans hx184_0; replace hx184_1 := (HB.out.cell (World.block_lt_of_cell? w _ hx184_1)).trans hx184_1; replace hx184_2 := (HB.out.cell (World.block_lt_of_cell? w _ hx184_2)).trans hx184_2; replace hx184_3 := (HB.out.cell (World.block_lt_of_cell? w _ hx184_3)).trans hx184_3; replace hx184_4 := (HB.out.cell (World.block_lt_of_cell? w _ hx184_4)).trans hx184_4; replace hx184_5 := (HB.out.cell (World.block_lt_of_cell? w _ hx184_5)).trans hx184_5; have HR184_1 := zaa.mk hi184_1; have HC184_1 := zaa.mk hl184_1; clear hi184_1 hl184_1; have HR184_2 := zaa.mk hi184_2; have HC184_2 := zaa.mk hl184_2; clear hi184_2 hl184_2; replace p184 := eq_true p184; replace q184 := eq_true q184) | ((with_reducible refine zaY (f := 79) rfl ?_); refine zbI (some 17) rfl rfl Tryz.func79 (by kernel_rfl) rfl #[.agg #[.slice (some ad184) l0_0.length c0_0], .int .i64 a1, .string a2] rfl (by (try simp only [List.map_toArray, List.map_cons, List.map_nil]); first | done | rfl | (simp only [List.length_drop, List.length_take]; rfl)) ?_; (with_reducible refine (zba.calls k _ _ l0_0 a1 a2 t185 _ ?side1 ?side2 A9.out).mono ?_); (case side1 => repeat (first | exact (Kd.C_below HR0_0.out HB.out) | (with_reducible refine Kd.C_alloc ?_ _) | (with_reducible refine Kd.C_drewN ?_ _) | (with_reducible refine Kd.C_drew ?_))); (case side2 => exact HC0_0.out); rintro e w17 ⟨rfl, hb⟩; refine ⟨_, rfl, ?_⟩; have n0_ := zaa.mk (zan (g := gb183) (o := .cells #[.slice (some ad184) l0_0.length c0_0] 24 (0, 0)) (by (with_reducible repeat (first | refine zaj ?_ _ | refine zak ?_ | refine zai ?_ _)); exact BK183.out) hb); have n1_ := zaa.mk (zam (by repeat (first | (with_reducible first | exact HB.out | apply zad | apply zab | apply zae | refine zal ?_ GE183.out) | exact HB.out)) hb); clear BK183; clear HB; have BK183 := n0_; have HB := n1_; clear n0_ n1_; (try clear hb); (try clear hb2); (try clear hk); (try clear hi); have hcz18_0 : w17.cell? ⟨gb183, 0, none⟩ = some (.slice (some ad184) l0_0.length c0_0) := (zac BK183.out 0).trans rfl; have hfz18_0 := zaf BK183.out 0; have p186 : 0 ≤ (a1 : Int) := of_decide_eq_true (by first | (with_reducible assumption) | assumption); have q186 : a1 < (l0_0.length : Int) := of_decide_eq_true (by first | (with_reducible assumption) | assumption); obtain ⟨ad186, A186_1, c186_1, A186_2, c186_2, e186, hx186_0, hx186_1, hx186_2, hx186_3, hx186_4, hx186_5, hl186_1, hi186_1, hl186_2, hi186_2⟩ := zbc HR0_0.out a1 p186 q186; obtain rfl : ad184 = ad186 := (by injection e186); replace hx186_0 := (HB.out.cell (World.block_lt_of_cell? w _ hx186_0)).trans hx186_0; replace hx186_1 := (HB.out.cell (World.block_lt_of_cell? w _ hx186_1)).trans hx186_1; replace hx186_2 := (HB.out.cell (World.block_lt_of_cell? w _ hx186_2)).trans hx186_2; replace hx186_3 := (HB.out.cell (World.block_lt_of_cell? w _ hx186_3)).trans hx186_3; replace hx186_4 := (HB.out.cell (World.block_lt_of_cell? w _ hx186_4)).trans hx186_4; replace hx186_5 := (HB.out.cell (World.block_lt_of_cell? w _ hx186_5)).trans hx186_5; have HR186_1 := zaa.mk hi186_1; have HC186_1 := zaa.mk hl186_1; clear hi186_1 hl186_1; have HR186_2 := zaa.mk hi186_2; have HC186_2 := zaa.mk hl186_2; clear hi186_2 hl186_2; replace p186 := eq_true p186; replace q186 := eq_true q186))
      go_ret
      exact ⟨by first | rfl | (simp [zaw, zav] <;> rfl) | (simp [*, zaw, zav] <;> rfl), by repeat (first | (with_reducible first | exact HB.out | apply zad | apply zab | apply zae | refine zal ?_ GE183.out) | exact HB.out)⟩
     ·rw [if_neg c14] at H
      have c14b0 : decide (64 ≤ (((zah l0_0 a1).f2).length : Int)) = false := decide_eq_false c14
      have c14b1 : decide (64 ≤ ((zah l0_0 a1).f2).length) = false := decide_eq_false (by omega)
      clear c14
      obtain rfl := Option.some.inj H
      go_enter Tryz.func64, Tryz.ntmps64
      go_wp2_with (first | ((with_reducible refine zaS (N := 3) rfl ?_); refine zaG ?hg (N := 3) ?hd (cs := #[.slice A0_0 l0_0.length c0_0]) (t := 24) ?hr ?_; (case hd => rfl); (case hg => rfl); (case hr => first | (go_simp; done) | (go_simp; rfl)); intro gb183 hg w19 hbox hb; have n0_ := zaa.mk (zam (by repeat (first | (with_reducible first | exact HB.out | apply zad | apply zab | apply zae) | exact HB.out)) hb); have n1_ := zaa.mk (hbox); have n2_ := zaa.mk ((by rw [hg]; exact (zar (by repeat (first | (with_reducible first | exact HB.out | apply zad | apply zab | apply zae) | exact HB.out))) : w.heap.size ≤ gb183)); have n3_ := zaa.mk ((by rw [hg]; exact (zar (by repeat (first | (with_reducible first | exact HB.out | apply zad | apply zab | apply zae) | exact HB.out))) : w.heap.size ≤ gb183)); clear HB; have HB := n0_; have BK183 := n1_; have GW183 := n2_; have GE183 := n3_; clear n0_ n1_ n2_ n3_; clear hb hbox hg; have hcz20_0 : w19.cell? ⟨gb183, 0, none⟩ = some (.slice A0_0 l0_0.length c0_0) := (zac BK183.out 0).trans rfl; have hfz20_0 := zaf BK183.out 0; have p184 : 0 ≤ (a1 : Int) := of_decide_eq_true (by first | (with_reducible assumption) | assumption); have q184 : a1 < (l0_0.length : Int) := of_decide_eq_true (by first | (with_reducible assumption) | assumption); obtain ⟨ad184, A184_1, c184_1, A184_2, c184_2, e184, hx184_0, hx184_1, hx184_2, hx184_3, hx184_4, hx184_5, hl184_1, hi184_1, hl184_2, hi184_2⟩ := zbc HR0_0.out a1 p184 q184; cases e184; replace hx184_0 := (HB.out.cell (World.block_lt_of_cell? w _ hx184_0)).trans hx184_0; replace hx184_1 := (HB.out.cell (World.block_lt_of_cell? w _ hx184_1)).trans hx184_1; replace hx184_2 := (HB.out.cell (World.block_lt_of_cell? w _ hx184_2)).trans hx184_2; replace hx184_3 := (HB.out.cell (World.block_lt_of_cell? w _ hx184_3)).trans hx184_3; replace hx184_4 := (HB.out.cell (World.block_lt_of_cell? w _ hx184_4)).trans hx184_4; replace hx184_5 := (HB.out.cell (World.block_lt_of_cell? w _ hx184_5)).trans hx184_5; have HR184_1 := zaa.mk hi184_1; have HC184_1 := zaa.mk hl184_1; clear hi184_1 hl184_1; have HR184_2 := zaa.mk hi184_2; have HC184_2 := zaa.mk hl184_2; clear hi184_2 hl184_2; replace p184 := eq_true p184; replace q184 := eq_true q184) | ((with_reducible refine zaY (f := 79) rfl ?_); refine zbI (some 17) rfl rfl Tryz.func79 (by kernel_rfl) rfl #[.agg #[.slice (some ad184) l0_0.length c0_0], .int .i64 a1, .string a2] rfl (by (try simp only [List.map_toArray, List.map_cons, List.map_nil]); first | done | rfl | (simp only [List.length_drop, List.length_take]; rfl)) ?_; (with_reducible refine (zba.calls k _ _ l0_0 a1 a2 t185 _ ?side1 ?side2 A9.out).mono ?_); (case side1 => repeat (first | exact (Kd.C_below HR0_0.out HB.out) | (with_reducible refine Kd.C_alloc ?_ _) | (with_reducible refine Kd.C_drewN ?_ _) | (with_reducible refine Kd.C_drew ?_))); (case side2 => exact HC0_0.out); rintro e w21 ⟨rfl, hb⟩; refine ⟨_, rfl, ?_⟩; have n0_ := zaa.mk (zan (g := gb183) (o := .cells #[.slice (some ad184) l0_0.length c0_0] 24 (0, 0)) (by (with_reducible repeat (first | refine zaj ?_ _ | refine zak ?_ | refine zai ?_ _)); exact BK183.out) hb); have n1_ := zaa.mk (zam (by repeat (first | (with_reducible first | exact HB.out | apply zad | apply zab | apply zae | refine zal ?_ GE183.out) | exact HB.out)) hb); clear BK183; clear HB; have BK183 := n0_; have HB := n1_; clear n0_ n1_; (try clear hb); (try clear hb2); (try clear hk); (try clear hi); have hcz22_0 : w21.cell? ⟨gb183, 0, none⟩ = some (.slice (some ad184) l0_0.length c0_0) := (zac BK183.out 0).trans rfl; have hfz22_0 := zaf BK183.out 0; have p186 : 0 ≤ (a1 : Int) := of_decide_eq_true (by first | (with_reducible assumption) | assumption); have q186 : a1 < (l0_0.length : Int) := of_decide_eq_true (by first | (with_reducible assumption) | assumption); obtain ⟨ad186, A186_1, c186_1, A186_2, c186_2, e186, hx186_0, hx186_1, hx186_2, hx186_3, hx186_4, hx186_5, hl186_1, hi186_1, hl186_2, hi186_2⟩ := zbc HR0_0.out a1 p186 q186; obtain rfl : ad184 = ad186 := (by injection e186); replace hx186_0 := (HB.out.cell (World.block_lt_of_cell? w _ hx186_0)).trans hx186_0; replace hx186_1 := (HB.out.cell (World.block_lt_of_cell? w _ hx186_1)).trans hx186_1; replace hx186_2 := (HB.out.cell (World.block_lt_of_cell? w _ hx186_2)).trans hx186_2; replace hx186_3 := (HB.out.cell (World.block_lt_of_cell? w _ hx186_3)).trans hx186_3; replace hx186_4 := (HB.out.cell (World.block_lt_of_cell? w _ hx186_4)).trans hx186_4; replace hx186_5 := (HB.out.cell (World.block_lt_of_cell? w _ hx186_5)).trans hx186_5; have HR186_1 := zaa.mk hi186_1; have HC186_1 := zaa.mk hl186_1; clear hi186_1 hl186_1; have HR186_2 := zaa.mk hi186_2; have HC186_2 := zaa.mk hl186_2; clear hi186_2 hl186_2; replace p186 := eq_true p186; replace q186 := eq_true q186))
      go_ret
      exact ⟨by first | rfl | (simp [zaw, zav] <;> rfl) | (simp [*, zaw, zav] <;> rfl), by repeat (first | (with_reducible first | exact HB.out | apply zad | apply zab | apply zae | refine zal ?_ GE183.out) | exact HB.out)⟩
  ·rw [if_neg c5] at H
   exact absurd H (by simp)
 ·rw [if_neg c4] at H
  exact absurd H (by simp)
def zbh.f (a0 : Int) : Option (Bool) := if a0 ≥ 0 then (some (decide (a0 ≤ 1125899906842624))) else (some false)
set_option maxHeartbeats 8000000 in
set_option maxRecDepth 100000 in
theorem zbh.calls (a0 : Int) (r : Bool) (w : World) (h : zbh.f a0 = some r) :
  Calls Tryz.prog 67 #[.int .i64 a0] w fun e w' => e = .returned (.bool r) ∧ zaQ w w' := by
 have H : (if a0 ≥ 0 then (some (decide (a0 ≤ 1125899906842624))) else (some false)) = some r := h
 clear h
 by_cases c2 : a0 ≥ 0
 ·rw [if_pos c2] at H
  have c2b0 : decide (0 ≤ a0) = true := decide_eq_true c2
  clear c2
  obtain rfl := Option.some.inj H
  go_enter Tryz.func67, Tryz.ntmps67
  go_wp2
  go_ret
  exact ⟨by first | rfl | (simp; done) | (simp [*]; done), by repeat (first | exact zaQ.refl _ | apply zaQ.step)⟩
 ·rw [if_neg c2] at H
  have c2b0 : decide (0 ≤ a0) = false := decide_eq_false c2
  clear c2
  obtain rfl := Option.some.inj H
  go_enter Tryz.func67, Tryz.ntmps67
  go_wp2
  go_ret
  exact ⟨by first | rfl | (simp; done) | (simp [*]; done), by repeat (first | exact zaQ.refl _ | apply zaQ.step)⟩
def strings_IndexByte.f (a0 : ByteArray) (a1 : Int) : Option Int := some (Lib.indexByte a0.data.toList a1.toNat.toUInt8)
theorem strings_IndexByte.calls (a0 : ByteArray) (a1 : Int) (r : Int) (w : World) (h : strings_IndexByte.f a0 a1 = some r) :
  Calls Tryz.prog 87 #[.string a0, .int .u8 a1] w fun e w' => e = .returned (.int .i64 r) ∧ zaQ w w' :=
 (Tryz.strings_IndexByte a0 a1 w).mono fun e w' ⟨he, hw⟩ => ⟨by rw [he, Option.some.inj h], hw ▸ zaQ.refl _⟩
def zaM.j0 : Nat → ByteArray → Bool → Option (Int)
 | 0, _, _ => none
 | k + 1, x0, x3 => if x3 = true then (some 28) else (if (x0.size : Int) > 64 then (some 37) else (some 0))
def zaM.f (k : Nat) (a0 : ByteArray) : Option (Int) := if a0.toList = ([] : List UInt8) then (zaM.j0 k a0 true) else (if a0.toList = ([46] : List UInt8) then (zaM.j0 k a0 true) else (if a0.toList = ([46, 46] : List UInt8) then (zaM.j0 k a0 true) else ((strings_IndexByte.f a0 0).bind fun t189 => (if t189 ≥ 0 then (zaM.j0 k a0 true) else ((strings_IndexByte.f a0 47).bind fun t190 => (zaM.j0 k a0 (decide (t190 ≥ 0))))))))
theorem zaM.mono_l : ∀ k, (∀ y0 y1, LeO (zaM.j0 k y0 y1) (zaM.j0 (k + 1) y0 y1))
 | 0 => fun _ _ r h => by simp [zaM.j0] at h
 | k + 1 => by
  have ih0 := zaM.mono_l k
  ·intro y0 y1
   unfold zaM.j0
   repeat' first
   | (with_reducible exact ih0 _ _)
   | (with_reducible exact LeO.refl _)
   | (with_reducible exact LeO.none _)
   | (with_reducible refine LeO.ite ?_ ?_)
   | (with_reducible refine LeO.bind ?_ (fun _ => ?_))
   | exact ih0 _ _
   | exact LeO.none _
   | refine LeO.ite ?_ ?_
   | refine LeO.bind ?_ (fun _ => ?_)
theorem zaM.mono : ∀ a0 k, LeO (zaM.f k a0) (zaM.f (k + 1) a0) := by
 intro a0 k
 have ih0 := zaM.mono_l k
 unfold zaM.f
 repeat' first
   | (with_reducible exact ih0 _ _)
   | (with_reducible exact LeO.refl _)
   | (with_reducible exact LeO.none _)
   | (with_reducible refine LeO.ite ?_ ?_)
   | (with_reducible refine LeO.bind ?_ (fun _ => ?_))
   | exact ih0 _ _
   | exact LeO.none _
   | refine LeO.ite ?_ ?_
   | refine LeO.bind ?_ (fun _ => ?_)
set_option maxHeartbeats 8000000 in
set_option maxRecDepth 100000 in
theorem zaM.calls (k : Nat) (a0 : ByteArray) (r : Int) (w : World) (h : zaM.f k a0 = some r) :
  Calls Tryz.prog 51 #[.string a0] w fun e w' => e = .returned (.int .i64 r) ∧ zaQ w w' := by
 have H : (if a0.toList = ([] : List UInt8) then (zaM.j0 k a0 true) else (if a0.toList = ([46] : List UInt8) then (zaM.j0 k a0 true) else (if a0.toList = ([46, 46] : List UInt8) then (zaM.j0 k a0 true) else ((strings_IndexByte.f a0 0).bind fun t189 => (if t189 ≥ 0 then (zaM.j0 k a0 true) else ((strings_IndexByte.f a0 47).bind fun t190 => (zaM.j0 k a0 (decide (t190 ≥ 0))))))))) = some r := h
 clear h
 have HC2 := zaa.mk H
 clear H
 go_enter Tryz.func51, Tryz.ntmps51
 go_upto_region 1 with (fail)
 go_cut [3] (fun v3 wc => ∃ (kq : Nat) (x3_1 : Bool), v3 = .bool x3_1 ∧ zaa (zaM.j0 kq a0 x3_1 = some r) ∧ zaa (kq ≤ k) ∧ zaQ w wc)
 case first =>
  have H := HC2.out
  clear HC2
  by_cases c3 : a0.toList = ([] : List UInt8)
  focus
   rw [if_pos c3] at H
   have c3b0 : (a0.toList == ([] : List UInt8)) = true := beq_iff_eq.mpr c3
   have c3b1 : (a0.toList != ([] : List UInt8)) = false := bne_eq_false_iff_eq.mpr c3
   clear c3
   (first | rw [c3b0] | (simp only [zbo, zbr]; rw [c3b0]) | skip)
  rotate_left 1
  focus
   rw [if_neg c3] at H
   have c3b0 : (a0.toList == ([] : List UInt8)) = false := beq_eq_false_iff_ne.mpr c3
   have c3b1 : (a0.toList != ([] : List UInt8)) = true := bne_iff_ne.mpr c3
   (first | rw [c3b0] | (simp only [zbo, zbr]; rw [c3b0]) | skip)
   by_cases c4 : a0.toList = ([46] : List UInt8)
   focus
    rw [if_pos c4] at H
    have c4b0 : (a0.toList == ([46] : List UInt8)) = true := beq_iff_eq.mpr c4
    have c4b1 : (a0.toList != ([46] : List UInt8)) = false := bne_eq_false_iff_eq.mpr c4
    clear c4
   rotate_left 1
   focus
    rw [if_neg c4] at H
    have c4b0 : (a0.toList == ([46] : List UInt8)) = false := beq_eq_false_iff_ne.mpr c4
    have c4b1 : (a0.toList != ([46] : List UInt8)) = true := bne_iff_ne.mpr c4
    by_cases c5 : a0.toList = ([46, 46] : List UInt8)
    focus
     rw [if_pos c5] at H
     have c5b0 : (a0.toList == ([46, 46] : List UInt8)) = true := beq_iff_eq.mpr c5
     have c5b1 : (a0.toList != ([46, 46] : List UInt8)) = false := bne_eq_false_iff_eq.mpr c5
     clear c5
    rotate_left 1
    focus
     rw [if_neg c5] at H
     have c5b0 : (a0.toList == ([46, 46] : List UInt8)) = false := beq_eq_false_iff_ne.mpr c5
     have c5b1 : (a0.toList != ([46, 46] : List UInt8)) = true := bne_iff_ne.mpr c5
     replace H := Option.bind_eq_some_iff.mp H
     obtain ⟨t189, A60, H⟩ := H
     replace H : (if t189 ≥ 0 then (zaM.j0 k a0 true) else ((strings_IndexByte.f a0 47).bind fun t190 => (zaM.j0 k a0 (decide (t190 ≥ 0))))) = some r := H
     have A6 := zaa.mk A60
     clear A60
     by_cases c7 : t189 ≥ 0
     focus
      rw [if_pos c7] at H
      have c7b0 : decide (0 ≤ t189) = true := decide_eq_true c7
      clear c7
     rotate_left 1
     focus
      rw [if_neg c7] at H
      have c7b0 : decide (0 ≤ t189) = false := decide_eq_false c7
      clear c7
      replace H := Option.bind_eq_some_iff.mp H
      obtain ⟨t190, A80, H⟩ := H
      replace H : (zaM.j0 k a0 (decide (t190 ≥ 0))) = some r := H
      have A8 := zaa.mk A80
      clear A80
  all_goals
   have H' := zaa.mk H
   clear H
   go_wp2_with (first | (go_at_call 87; (with_reducible refine (strings_IndexByte.calls a0 0 _ _ A6.out).mono ?_); rintro e w' ⟨rfl, ⟨nd, rfl⟩⟩) | (go_at_call 87; (with_reducible refine (strings_IndexByte.calls a0 47 _ _ A8.out).mono ?_); rintro e w' ⟨rfl, ⟨nd, rfl⟩⟩))
   go_meet
   case rel => first | (exact ⟨_, (true), (by first | rfl | (simp; done) | (simp [*]; done)), H', ⟨by first | omega | exact Nat.le_refl _⟩, by repeat (first | exact zaQ.refl _ | apply zaQ.step)⟩) | (exact ⟨_, (decide (t190 ≥ 0)), (by first | rfl | (simp; done) | (simp [*]; done)), H', ⟨by first | omega | exact Nat.le_refl _⟩, by repeat (first | exact zaQ.refl _ | apply zaQ.step)⟩)
 case rest =>
  clear HC2
  obtain ⟨kq, x3_1, rfl, HA, HJ1, ⟨mc1, rfl⟩⟩ := hcut
  cases kq with
  | zero => exact absurd HA.out (by simp [zaM.j0])
  | succ kj1 =>
   have H := HA.out
   clear HA
   simp only [zaM.j0] at H
   by_cases c9 : x3_1 = true
   focus
    subst c9
    have H1 : (some 28) = some r := by rw [if_pos rfl] at H; exact H
    clear H
    have H := H1
    clear H1
    obtain rfl := Option.some.inj H
   rotate_left 1
   focus
    replace c9 := Bool.eq_false_iff.mpr c9
    subst c9
    have H1 : (if (a0.size : Int) > 64 then (some 37) else (some 0)) = some r := by rw [if_neg (show ¬ (false = true) by decide)] at H; exact H
    clear H
    have H := H1
    clear H1
    by_cases c10 : (a0.size : Int) > 64
    focus
     rw [if_pos c10] at H
     have c10b0 : decide (64 < (a0.size : Int)) = true := decide_eq_true c10
     have c10b1 : decide (64 < a0.size) = true := decide_eq_true (by omega)
     clear c10
     obtain rfl := Option.some.inj H
    rotate_left 1
    focus
     rw [if_neg c10] at H
     have c10b0 : decide (64 < (a0.size : Int)) = false := decide_eq_false c10
     have c10b1 : decide (64 < a0.size) = false := decide_eq_false (by omega)
     clear c10
     obtain rfl := Option.some.inj H
   all_goals
    go_wp2
    go_ret
    exact ⟨by first | rfl | (simp; done) | (simp [*]; done), by repeat (first | exact zaQ.refl _ | apply zaQ.step)⟩
def nameE (s : ByteArray) : Int := (zaM.f 1 s).getD 0
theorem nameE_f (s : ByteArray) : zaM.f 1 s = some (nameE s) := by
 unfold nameE zaM.f
 simp only [strings_IndexByte.f, zaM.j0, Option.bind_some]
 repeat' split
 all_goals rfl
def okName (l : List S40) (ns : List S50) (i : Nat) : Bool :=
 (nameE (zau ns i).f0 == 0) && (i == 0 || Op.bytesLess (zau ns ((i : Int) - 1)).f0.toList (zau ns i).f0.toList) &&
 (decide (1 ≤ (zau ns i).f1) && (decide ((zau ns i).f1 < (l.length : Int)) && ((zah l (zau ns i).f1).f0 != 0)))
def okNames (l : List S40) (ns : List S50) (n : Nat) : Bool := (List.range n).all (okName l ns)
theorem okNames_succ (l : List S40) (ns : List S50) (n : Nat) : okNames l ns (n + 1) = (okNames l ns n && okName l ns n) := by
 unfold okNames; rw [List.range_succ, List.all_append]; simp
theorem zbM {l : List S40} {ns : List S50} {i n : Nat} (hi : i < n) (h : okName l ns i = false) : okNames l ns n = false := by
 unfold okNames
 rw [List.all_eq_false]
 exact ⟨i, List.mem_range.2 hi, by simp [h]⟩
def zco.f (l0_0 : List S40) (l1 : List S50) : Option Bool := some (okNames l0_0 l1 l1.length && decide ((l1.length : Int) ≤ 64))
set_option maxHeartbeats 4000000 in
set_option maxRecDepth 100000 in
theorem zco.calls (A0_0 : Option Addr) (c0_0 : Nat) (l0_0 : List S40) (A1 : Option Addr) (c1 : Nat) (l1 : List S50) (r : Bool) (w : World) (hr0_0 : Kd.C k40 w A0_0 l0_0.length l0_0) (hc0_0 : l0_0.length ≤ c0_0) (hr1 : Kd.C k50 w A1 l1.length l1) (hc1 : l1.length ≤ c1) (h : zco.f l0_0 l1 = some r) :
  Calls Tryz.prog 92 #[.agg #[.slice A0_0 l0_0.length c0_0], .slice A1 l1.length c1] w fun e w' => e = .returned (.bool r) ∧ Below w.heap.size w w' := by
 have HH := zaa.mk (Option.some.inj h)
 have HR := zaa.mk hr0_0
 have HR1 := zaa.mk hr1
 have HM := zaa.mk hr1.2.1
 have hut := Tryz.underlying24
 have hun := Tryz.underlying50
 clear hr0_0 hc0_0 hr1 hc1 h
 go_enter Tryz.func92, Tryz.ntmps92
 go_wp2
 go_loopw [9] (fun v9 w' => ∃ i : Nat, i ≤ l1.length ∧ v9 = .int .i64 i ∧ zaa (okNames l0_0 l1 i = true) ∧ zaa (Below (w.alloc (.cells #[.slice A0_0 l0_0.length c0_0] 24)).heap.size (w.alloc (.cells #[.slice A0_0 l0_0.length c0_0] 24)) w')) (fun v9 _ => l1.length - (intOf v9).toNat)
 case atStart => exact ⟨0, Nat.zero_le _, rfl, ⟨rfl⟩, ⟨Below.refl _ _⟩⟩
 case round =>
  obtain ⟨i, hi, rfl, HE, HB⟩ := hrel
  have hmax := HM.out
  have HB0 := zaa.mk (zam (zad (Below.refl w.heap.size w) (.cells #[.slice A0_0 l0_0.length c0_0] 24)) HB.out)
  have hct : wr.cell? ⟨w.heap.size, 0, none⟩ = some (.slice A0_0 l0_0.length c0_0) := (zac ((HB.out.block w.heap.size (by simp)).trans (zbb w _)) 0).trans rfl
  by_cases hlt : i < l1.length
  focus
   obtain ⟨ad, rfl, hx0, hx1⟩ := zb4 HR1.out (i : Int) (by omega) (by omega)
   replace hx0 := (HB0.out.cell (World.block_lt_of_cell? w _ hx0)).trans hx0
   replace hx1 := (HB0.out.cell (World.block_lt_of_cell? w _ hx1)).trans hx1
   rw [Int.toNat_natCast] at hx0 hx1
   have hct2 : (wr.alloc (.cells #[.string (zau l1 i).f0, .int .i64 (zau l1 i).f1] 50)).cell? ⟨w.heap.size, 0, none⟩ = some (.slice A0_0 l0_0.length c0_0) := (World.cell?_alloc_lt _ _ _ (World.block_lt_of_cell? _ _ hct)).trans hct
   have HN := zaa.mk (nameE_f (zau l1 i).f0)
   obtain ⟨en, hen⟩ : ∃ e, e = nameE (zau l1 i).f0 := ⟨_, rfl⟩
   have HO : zaa (okName l0_0 l1 i = ((en == 0) && (i == 0 || Op.bytesLess (zau l1 ((i : Int) - 1)).f0.toList (zau l1 i).f0.toList) && (decide (1 ≤ (zau l1 i).f1) && (decide ((zau l1 i).f1 < (l0_0.length : Int)) && ((zah l0_0 (zau l1 i).f1).f0 != 0))))) := ⟨by rw [hen]; rfl⟩
   rw [← hen] at HN
   clear hen
   by_cases c1 : en = 0
   focus
    have hn1 : (en != 0) = false := by simpa using c1
    have HC1 := zaa.mk c1
    clear c1
    by_cases c2 : i = 0
    focus
     have hn2 : decide ((0 : Int) < (i : Int)) = false := by simp [c2]
     have hn2b : decide (0 < i) = false := by simp [c2]
     have HC2 : zaa ((i == 0 || Op.bytesLess (zau l1 ((i : Int) - 1)).f0.toList (zau l1 i).f0.toList) = true) := ⟨by simp [c2]⟩
     clear c2
     by_cases c3 : 1 ≤ (zau l1 i).f1
     focus
      have hn3 : decide ((zau l1 i).f1 < 1) = false := by simpa using c3
      by_cases c4 : (zau l1 i).f1 < (l0_0.length : Int)
      focus
       have hn4 : decide ((l0_0.length : Int) ≤ (zau l1 i).f1) = false := by simpa using c4
       obtain ⟨at_, B1, d1, B2, d2, rfl, hy0, hy1, hy2, hy3, hy4, hy5, _, _, _, _⟩ := zbc HR.out (zau l1 i).f1 (by omega) c4
       replace hy0 := (HB0.out.cell (World.block_lt_of_cell? w _ hy0)).trans hy0
       have hy02 := (World.cell?_alloc_lt wr (.cells #[.string (zau l1 i).f0, .int .i64 (zau l1 i).f1] 50) _ (World.block_lt_of_cell? _ _ hy0)).trans hy0
       clear hy1 hy2 hy3 hy4 hy5
       have p4 := eq_true (show 0 ≤ (zau l1 i).f1 by omega)
       have q4 := eq_true c4
       by_cases c5 : (zah l0_0 (zau l1 i).f1).f0 = 0
       focus
        have hn5 : ((zah l0_0 (zau l1 i).f1).f0 == 0) = true := by simpa using c5
        have HF := zaa.mk (zbM hlt (show okName l0_0 l1 i = false by rw [HO.out]; simp [c5]))
        clear c3 c4 c5
        have zmk0 := trivial
       rotate_left 1
       focus
        have hn5 : ((zah l0_0 (zau l1 i).f1).f0 == 0) = false := by simpa using c5
        have HF := zaa.mk (show okNames l0_0 l1 (i + 1) = true by rw [okNames_succ, HE.out, HO.out]; simp [HC1.out, HC2.out, c3, c4, c5])
        clear c3 c4 c5
        have zmk1 := trivial
      rotate_left 2
      focus
       have hn4 : decide ((l0_0.length : Int) ≤ (zau l1 i).f1) = true := by simpa using c4
       have HF := zaa.mk (zbM hlt (show okName l0_0 l1 i = false by rw [HO.out]; simp [c4]))
       clear c3 c4
       have zmk0 := trivial
     rotate_left 3
     focus
      have hn3 : decide ((zau l1 i).f1 < 1) = true := by simpa using c3
      have HF := zaa.mk (zbM hlt (show okName l0_0 l1 i = false by rw [HO.out]; simp [c3]))
      clear c3
      have zmk0 := trivial
    rotate_left 4
    ·have hn2 : decide ((0 : Int) < (i : Int)) = true := by simp; omega
     have hn2b : decide (0 < i) = true := by simp; omega
     obtain ⟨ad2, e2, hz0, hz1⟩ := zb4 HR1.out ((i : Int) - 1) (by omega) (by omega)
     cases e2
     replace hz0 := (HB0.out.cell (World.block_lt_of_cell? w _ hz0)).trans hz0
     rw [show ((i : Int) - 1).toNat = i - 1 by omega] at hz0
     have hz02 := (World.cell?_alloc_lt wr (.cells #[.string (zau l1 i).f0, .int .i64 (zau l1 i).f1] 50) _ (World.block_lt_of_cell? _ _ hz0)).trans hz0
     have hp2 : 1 ≤ i := by omega
     clear hz1
     cases c6 : Op.bytesLess (zau l1 ((i : Int) - 1)).f0.toList (zau l1 i).f0.toList
     ·have HF := zaa.mk (zbM hlt (show okName l0_0 l1 i = false by rw [HO.out]; simp [c2, c6]))
      clear c2
      go_wp2_with fail
      go_quiet ((go_at_call 51; (with_reducible refine (zaM.calls 1 (zau l1 i).f0 en _ HN.out).mono ?_); rintro e w' ⟨rfl, ⟨nd, rfl⟩⟩; (try first | exact ⟨rfl, _, World.drewN_drewN _ _ _⟩ | exact ⟨rfl, _, Eq.trans (World.drewN_drewN _ _ _) (congrArg (World.drewN _) (Nat.add_assoc _ _ _))⟩)))
      go_wp2
      go_ret
      exact ⟨by rw [← HH.out, HF.out]; rfl, by repeat (first | exact HB0.out | apply zad | apply zab | apply zae)⟩
     ·have HC2 : zaa ((i == 0 || Op.bytesLess (zau l1 ((i : Int) - 1)).f0.toList (zau l1 i).f0.toList) = true) := ⟨by simp [c6]⟩
      clear c2
      by_cases c3 : 1 ≤ (zau l1 i).f1
      focus
       have hn3 : decide ((zau l1 i).f1 < 1) = false := by simpa using c3
       by_cases c4 : (zau l1 i).f1 < (l0_0.length : Int)
       focus
        have hn4 : decide ((l0_0.length : Int) ≤ (zau l1 i).f1) = false := by simpa using c4
        obtain ⟨at_, B1, d1, B2, d2, rfl, hy0, hy1, hy2, hy3, hy4, hy5, _, _, _, _⟩ := zbc HR.out (zau l1 i).f1 (by omega) c4
        replace hy0 := (HB0.out.cell (World.block_lt_of_cell? w _ hy0)).trans hy0
        have hy02 := (World.cell?_alloc_lt wr (.cells #[.string (zau l1 i).f0, .int .i64 (zau l1 i).f1] 50) _ (World.block_lt_of_cell? _ _ hy0)).trans hy0
        clear hy1 hy2 hy3 hy4 hy5
        have p4 := eq_true (show 0 ≤ (zau l1 i).f1 by omega)
        have q4 := eq_true c4
        by_cases c5 : (zah l0_0 (zau l1 i).f1).f0 = 0
        focus
         have hn5 : ((zah l0_0 (zau l1 i).f1).f0 == 0) = true := by simpa using c5
         have HF := zaa.mk (zbM hlt (show okName l0_0 l1 i = false by rw [HO.out]; simp [c5]))
         clear c3 c4 c5
         have zmk0 := trivial
        rotate_left 1
        focus
         have hn5 : ((zah l0_0 (zau l1 i).f1).f0 == 0) = false := by simpa using c5
         have HF := zaa.mk (show okNames l0_0 l1 (i + 1) = true by rw [okNames_succ, HE.out, HO.out]; simp [HC1.out, HC2.out, c3, c4, c5])
         clear c3 c4 c5
         have zmk1 := trivial
       rotate_left 2
       focus
        have hn4 : decide ((l0_0.length : Int) ≤ (zau l1 i).f1) = true := by simpa using c4
        have HF := zaa.mk (zbM hlt (show okName l0_0 l1 i = false by rw [HO.out]; simp [c4]))
        clear c3 c4
        have zmk0 := trivial
      rotate_left 3
      focus
       have hn3 : decide ((zau l1 i).f1 < 1) = true := by simpa using c3
       have HF := zaa.mk (zbM hlt (show okName l0_0 l1 i = false by rw [HO.out]; simp [c3]))
       clear c3
       have zmk0 := trivial
      all_goals
       first
       | (
        clear zmk0
        go_wp2_with fail
        go_quiet ((go_at_call 51; (with_reducible refine (zaM.calls 1 (zau l1 i).f0 en _ HN.out).mono ?_); rintro e w' ⟨rfl, ⟨nd, rfl⟩⟩; (try first | exact ⟨rfl, _, World.drewN_drewN _ _ _⟩ | exact ⟨rfl, _, Eq.trans (World.drewN_drewN _ _ _) (congrArg (World.drewN _) (Nat.add_assoc _ _ _))⟩)))
        go_wp2
        go_ret
        exact ⟨by rw [← HH.out, HF.out]; rfl, by repeat (first | exact HB0.out | apply zad | apply zab | apply zae)⟩
       )
       | (
        clear zmk1
        go_wp2_with fail
        go_quiet ((go_at_call 51; (with_reducible refine (zaM.calls 1 (zau l1 i).f0 en _ HN.out).mono ?_); rintro e w' ⟨rfl, ⟨nd, rfl⟩⟩; (try first | exact ⟨rfl, _, World.drewN_drewN _ _ _⟩ | exact ⟨rfl, _, Eq.trans (World.drewN_drewN _ _ _) (congrArg (World.drewN _) (Nat.add_assoc _ _ _))⟩)))
        go_wp2
        go_roundw
        case rel => exact ⟨i + 1, by omega, by go_num, HF, ⟨by repeat (first | exact HB.out | apply zad | apply zab | apply zae)⟩⟩
        case measure => simp [intOf]; omega
       )
   rotate_left 4
   focus
    have hn1 : (en != 0) = true := by simpa using c1
    have HF := zaa.mk (zbM hlt (show okName l0_0 l1 i = false by rw [HO.out]; simp [c1]))
    clear c1
    have zmk0 := trivial
  rotate_left 5
  focus
   have hle := okNames_succ l0_0 l1 0
   have HH1 := HH.out
   obtain rfl : i = l1.length := by omega
   rw [HE.out, Bool.true_and] at HH1
   have HH2 := zaa.mk HH1
   clear HH1 hle
   have zmk2 := trivial
  all_goals
   first
   | (
    clear zmk0
    go_wp2_with fail
    go_quiet ((go_at_call 51; (with_reducible refine (zaM.calls 1 (zau l1 i).f0 en _ HN.out).mono ?_); rintro e w' ⟨rfl, ⟨nd, rfl⟩⟩; (try first | exact ⟨rfl, _, World.drewN_drewN _ _ _⟩ | exact ⟨rfl, _, Eq.trans (World.drewN_drewN _ _ _) (congrArg (World.drewN _) (Nat.add_assoc _ _ _))⟩)))
    go_wp2
    go_ret
    exact ⟨by rw [← HH.out, HF.out]; rfl, by repeat (first | exact HB0.out | apply zad | apply zab | apply zae)⟩
   )
   | (
    clear zmk1
    go_wp2_with fail
    go_quiet ((go_at_call 51; (with_reducible refine (zaM.calls 1 (zau l1 i).f0 en _ HN.out).mono ?_); rintro e w' ⟨rfl, ⟨nd, rfl⟩⟩; (try first | exact ⟨rfl, _, World.drewN_drewN _ _ _⟩ | exact ⟨rfl, _, Eq.trans (World.drewN_drewN _ _ _) (congrArg (World.drewN _) (Nat.add_assoc _ _ _))⟩)))
    go_wp2
    go_roundw
    case rel => exact ⟨i + 1, by omega, by go_num, HF, ⟨by repeat (first | exact HB.out | apply zad | apply zab | apply zae)⟩⟩
    case measure => simp [intOf]; omega
   )
   | (
    clear zmk2
    go_wp2
    go_ret
    exact ⟨by rw [← HH2.out]; rfl, by repeat (first | exact HB0.out | apply zad | apply zab | apply zae)⟩
   )
theorem idx_ge (c : UInt8) : ∀ l : List UInt8, 0 ≤ Lib.indexByte l c ↔ c ∈ l
 | [] => by simp [Lib.indexByte]
 | b :: l => by
  have ih := idx_ge c l
  unfold Lib.indexByte
  by_cases h : b = c
  ·subst h; simp
  ·rw [if_neg (by simpa using h)]
   have hn : c ∈ b :: l ↔ c ∈ l := by simp [Ne.symm h]
   rw [hn, ← ih]
   by_cases h1 : Lib.indexByte l c = -1
   ·rw [if_pos (by simpa using h1), h1]
   ·rw [if_neg (by simpa using h1)]
    have := Lib.indexByte_ge l c
    omega
def bytesOf (s : ByteArray) : List UInt8 := s.data.toList
theorem bytesOf_len (s : ByteArray) : (bytesOf s).length = s.size := Array.length_toList
theorem bt_get (s : ByteArray) (i : Nat) (h : i < s.size) : bt s (i : Int) = ((bytesOf s)[i]'(by rw [bytesOf_len]; exact h)).toNat := by
 unfold bt
 rw [dif_pos (show ((i : Int)).toNat < s.size by omega)]
 rfl
theorem drop_has (l : List UInt8) (c : UInt8) (i : Nat) (h : i < l.length) : c ∈ l.drop i ↔ l[i] = c ∨ c ∈ l.drop (i + 1) := by
 rw [List.drop_eq_getElem_cons h, List.mem_cons]
 exact ⟨fun h => h.imp Eq.symm id, fun h => h.imp Eq.symm id⟩
theorem zero_l0 (s : ByteArray) (hm : s.size < 9223372036854775807) : ∀ (d i : Nat), i + d = s.size → EvB (fun k => zaN.l0 k s (i : Int)) ((0 : UInt8) ∈ (bytesOf s).drop i)
 | 0, i, h => EvB.step (EvB.no (by rw [List.drop_eq_nil_of_le (by rw [bytesOf_len]; omega)]; simp)) (fun k => by rw [zaN.l0, if_neg (by omega)])
 | d + 1, i, h => by
  have hi : i < (bytesOf s).length := by rw [bytesOf_len]; omega
  rw [drop_has _ _ _ hi]
  by_cases e : (bytesOf s)[i] = 0
  ·refine EvB.step (EvB.yes (.inl e)) (fun k => ?_)
   rw [zaN.l0, if_pos (by omega), if_pos (by omega), if_pos (by rw [bt_get s i (by omega), e]; rfl)]
  ·refine EvB.step ((zero_l0 s hm d (i + 1) (by omega)).iff ⟨.inr, fun h => h.resolve_left e⟩) (fun k => ?_)
   rw [zaN.l0, if_pos (by omega), if_pos (by omega), if_neg, up64 (by omega)]
   rw [bt_get s i (by omega)]
   intro h0
   exact e (UInt8.toNat_inj.1 (Int.ofNat.inj h0))
theorem zero_ev (s : ByteArray) (hm : s.size < 9223372036854775807) : EvB (fun k => zaN.f k s) ((0 : UInt8) ∈ bytesOf s) := zero_l0 s hm s.size 0 (by omega)
def nameP (s : ByteArray) : Int := if s.toList = ([] : List UInt8) ∨ s.toList = ([46] : List UInt8) ∨ s.toList = ([46, 46] : List UInt8) ∨ (0 : UInt8) ∈ bytesOf s ∨ (47 : UInt8) ∈ bytesOf s then 28 else if (s.size : Int) > 64 then 37 else 0
theorem zcr {s : ByteArray} (h : s.toList = ([] : List UInt8) ∨ s.toList = ([46] : List UInt8) ∨ s.toList = ([46, 46] : List UInt8) ∨ (0 : UInt8) ∈ bytesOf s ∨ (47 : UInt8) ∈ bytesOf s) : nameP s = 28 := if_pos h
theorem tree_name (k : Nat) (s : ByteArray) : zaM.f (k + 1) s = some (nameP s) := by
 have h0 := idx_ge 0 (bytesOf s)
 have h47 := idx_ge 47 (bytesOf s)
 unfold zaM.f
 by_cases c1 : s.toList = ([] : List UInt8)
 ·rw [if_pos c1, zcr (.inl c1), zaM.j0, if_pos rfl]
 rw [if_neg c1]
 by_cases c2 : s.toList = ([46] : List UInt8)
 ·rw [if_pos c2, zcr (.inr (.inl c2)), zaM.j0, if_pos rfl]
 rw [if_neg c2]
 by_cases c3 : s.toList = ([46, 46] : List UInt8)
 ·rw [if_pos c3, zcr (.inr (.inr (.inl c3))), zaM.j0, if_pos rfl]
 rw [if_neg c3]
 simp only [strings_IndexByte.f, Option.bind_some]
 change (if 0 ≤ Lib.indexByte (bytesOf s) 0 then _ else zaM.j0 (k + 1) s (decide (0 ≤ Lib.indexByte (bytesOf s) 47))) = _
 by_cases c4 : (0 : UInt8) ∈ bytesOf s
 ·rw [if_pos (h0.2 c4), zcr (.inr (.inr (.inr (.inl c4)))), zaM.j0, if_pos rfl]
 rw [if_neg (fun h => c4 (h0.1 h))]
 by_cases c5 : (47 : UInt8) ∈ bytesOf s
 ·rw [zcr (.inr (.inr (.inr (.inr c5)))), zaM.j0, if_pos (decide_eq_true (h47.2 c5))]
 rw [zaM.j0, if_neg (by rw [decide_eq_true_eq]; exact fun h => c5 (h47.1 h))]
 have hno : ¬ (s.toList = ([] : List UInt8) ∨ s.toList = ([46] : List UInt8) ∨ s.toList = ([46, 46] : List UInt8) ∨ (0 : UInt8) ∈ bytesOf s ∨ (47 : UInt8) ∈ bytesOf s) := fun h => by
  rcases h with h | h | h | h | h
  ·exact c1 h
  ·exact c2 h
  ·exact c3 h
  ·exact c4 h
  ·exact c5 h
 unfold nameP
 rw [if_neg hno]
 by_cases c6 : (s.size : Int) > 64
 ·rw [if_pos c6, if_pos c6]
 ·rw [if_neg c6, if_neg c6]
theorem nameE_P (s : ByteArray) : nameE s = nameP s := by
 have h1 := nameE_f s
 rw [tree_name 0 s] at h1
 exact (Option.some.inj h1).symm
theorem name_l0 (s : ByteArray) (hm : s.size < 9223372036854775807) : ∀ (d i : Nat), i + d = s.size → Ev (fun k => zat.l0 k s (i : Int)) (if (47 : UInt8) ∈ (bytesOf s).drop i then 28 else if (s.size : Int) > 64 then 37 else 0)
 | 0, i, h => by
  rw [if_neg (by rw [List.drop_eq_nil_of_le (by rw [bytesOf_len]; omega)]; simp)]
  refine Ev.step (f := fun _ => some _) (fun k => ?_) (Ev.now _)
  rw [zat.l0, if_neg (by omega)]
  split <;> rfl
 | d + 1, i, h => by
  have hi : i < (bytesOf s).length := by rw [bytesOf_len]; omega
  by_cases e : (bytesOf s)[i] = 47
  ·rw [if_pos ((drop_has _ _ _ hi).2 (.inl e))]
   refine Ev.step (f := fun _ => some 28) (fun k => ?_) (Ev.now _)
   rw [zat.l0, if_pos (by omega), if_pos (by omega), if_pos (by rw [bt_get s i (by omega), e]; rfl)]
  ·have e2 : ((47 : UInt8) ∈ (bytesOf s).drop i) = ((47 : UInt8) ∈ (bytesOf s).drop (i + 1)) := propext ((drop_has _ _ _ hi).trans ⟨fun h => h.resolve_left e, .inr⟩)
   have ih := name_l0 s hm d (i + 1) (by omega)
   simp only [e2]
   refine Ev.step (fun k => ?_) ih
   rw [zat.l0, if_pos (by omega), if_pos (by omega), if_neg, up64 (by omega)]
   rw [bt_get s i (by omega)]
   intro h0
   exact e (UInt8.toNat_inj.1 (Int.ofNat.inj h0))
theorem page_name (s : ByteArray) (hm : s.size < 9223372036854775807) : Ev (fun k => zat.f k s) (nameP s) := by
 have j1 : Ev (fun k => zat.j0 k s true) 28 := Ev.step (f := fun _ => some 28) (fun k => by rw [zat.j0, if_pos rfl]) (Ev.now _)
 unfold zat.f
 by_cases c1 : s.toList = ([] : List UInt8)
 ·rw [zcr (.inl c1)]; exact Ev.congr (fun k => if_pos c1) j1
 by_cases c2 : s.toList = ([46] : List UInt8)
 ·rw [zcr (.inr (.inl c2))]; exact Ev.congr (fun k => by rw [if_neg c1, if_pos c2]) j1
 by_cases c3 : s.toList = ([46, 46] : List UInt8)
 ·rw [zcr (.inr (.inr (.inl c3)))]; exact Ev.congr (fun k => by rw [if_neg c1, if_neg c2, if_pos c3]) j1
 refine Ev.congr (fun k => by rw [if_neg c1, if_neg c2, if_neg c3]) ?_
 by_cases c4 : (0 : UInt8) ∈ bytesOf s
 ·rw [zcr (.inr (.inr (.inr (.inl c4))))]
  exact Ev.bind (f := fun k t => zat.j0 k s t) ((zero_ev s hm).out c4) j1
 ·refine Ev.bind (f := fun k t => zat.j0 k s t) ((zero_ev s hm).not c4) ?_
  have e : nameP s = if (47 : UInt8) ∈ (bytesOf s).drop 0 then 28 else if (s.size : Int) > 64 then 37 else 0 := by
   unfold nameP; simp only [c1, c2, c3, c4, false_or, List.drop_zero]
  rw [e]
  exact Ev.step (fun k => by rw [zat.j0, if_neg (by simp)]; rfl) (name_l0 s hm s.size 0 (by omega))
def TimeP (t : Int) : Prop := 0 ≤ t ∧ t ≤ 1125899906842624
theorem page_time (t : Int) : ∃ b, za0.f t = some b ∧ (b = true ↔ TimeP t) := by
 unfold za0.f TimeP
 by_cases h : t ≥ 0
 ·exact ⟨_, if_pos h, by rw [decide_eq_true_eq]; exact ⟨fun h1 => ⟨h, h1⟩, And.right⟩⟩
 ·exact ⟨_, if_neg h, by simp; omega⟩
theorem tree_time_ (t : Int) : ∃ b, zbh.f t = some b ∧ (b = true ↔ TimeP t) := by
 unfold zbh.f TimeP
 by_cases h : t ≥ 0
 ·exact ⟨_, if_pos h, by rw [decide_eq_true_eq]; exact ⟨fun h1 => ⟨h, h1⟩, And.right⟩⟩
 ·exact ⟨_, if_neg h, by simp; omega⟩
def okR (ns : List S50) (i : Nat) : Prop := nameP (zau ns (i : Int)).f0 = 0 ∧ (i = 0 ∨ Op.bytesLess (zau ns ((i : Int) - 1)).f0.toList (zau ns (i : Int)).f0.toList = true)
def zbJ (l : List S40) (x : S50) : Prop := 1 ≤ x.f1 ∧ x.f1 < (l.length : Int) ∧ (zah l x.f1).f0 ≠ 0
theorem okName_iff (l : List S40) (ns : List S50) (i : Nat) : okName l ns i = true ↔ okR ns i ∧ zbJ l (zau ns (i : Int)) := by
 unfold okName okR zbJ
 rw [nameE_P]
 simp only [Bool.and_eq_true, Bool.or_eq_true, beq_iff_eq, decide_eq_true_eq, bne_iff_ne, ne_eq]
theorem names_mem {ns : List S50} {P : S50 → Prop} : (∀ x ∈ ns, P x) ↔ ∀ i, i < ns.length → P (zau ns (i : Int)) := by
 constructor
 ·intro h i hi; rw [zbY ns i hi]; exact h _ (List.getElem_mem _)
 ·intro h x hx
  obtain ⟨i, hi, rfl⟩ := List.getElem_of_mem hx
  rw [← zbY ns i hi]; exact h i hi
theorem okNames_iff (l : List S40) (ns : List S50) (n : Nat) : okNames l ns n = true ↔ ∀ i, i < n → okR ns i ∧ zbJ l (zau ns (i : Int)) := by
 unfold okNames
 simp only [List.all_eq_true, List.mem_range, okName_iff]
def zb6 (x : S40) : Prop :=
 (x.f0 = 0 ∧ x = z40) ∨ (x.f0 = 1 ∧ TimeP x.f5 ∧ x.f1.length ≤ 16384 ∧ x.f2 = [] ∧ x.f3 = ⟨#[]⟩) ∨
 (x.f0 = 2 ∧ TimeP x.f5 ∧ x.f2.length ≤ 64 ∧ (∀ i, i < x.f2.length → okR x.f2 i) ∧ x.f1 = [] ∧ x.f3 = ⟨#[]⟩) ∨
 (x.f0 = 3 ∧ TimeP x.f5 ∧ x.f3 ≠ ⟨#[]⟩ ∧ x.f3.size ≤ 512 ∧ (0 : UInt8) ∉ bytesOf x.f3 ∧ x.f1 = [] ∧ x.f2 = [])
end Go.Proofs.YtjghephnjkffcaaGreat.PAll
