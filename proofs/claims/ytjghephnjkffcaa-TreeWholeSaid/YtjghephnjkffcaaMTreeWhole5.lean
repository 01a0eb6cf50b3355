/- Parts of one proof, merged by a program of this repo: walks over the given program and plain facts. -/
import Derived.Test.YtjghephnjkffcaaMTreeWhole4
import Derived.Test.YtjghephnjkffcaaMTreeWhole3
import Derived.WalkLawsBesides
namespace Go.Proofs.Ytjghephnjkffcaa.PCk
open Go.RowKit Go.Proofs.YtjghephnjkffcaaW.PrintWords Go.Proofs.YtjghephnjkffcaaW.PrintLast Go.Proofs.YtjghephnjkffcaaW.PrintMore
attribute [local go_sem] zbV zbT zci zch zbG zbF zbU zbS
set_option linter.unusedVariables false
set_option linter.unusedSimpArgs false
def zaI.l0 : Nat → List (S45) → List (S45) → Int → Option ((List (S45)))
 | 0, _, _, _ => none
 | k + 1, x0, x3, x4 => if x4 < (x0.length : Int) then (if 0 ≤ x4 then ((zbI.f k ((zae x0 x4).f0) ((zae x0 x4).f1) ((zae x0 x4).f2) ((zae x0 x4).f3) ((zae x0 x4).f4) ((zae x0 x4).f5)).bind fun bt129 => (if x3.length < 1599289640401 then (zaI.l0 k x0 (x3 ++ [(⟨bt129.1, bt129.2.1, bt129.2.2.1, bt129.2.2.2.1, bt129.2.2.2.2.1, bt129.2.2.2.2.2⟩ : S45)]) (wrap64 (x4 + 1))) else (none))) else (none)) else (some x3)
def zaI.f (k : Nat) (l0 : List (S45)) : Option ((List (S45))) := zaI.l0 k l0 ([] : List (S45)) 0
set_option maxHeartbeats 8000000 in
set_option maxRecDepth 100000 in
theorem zaI.calls (k : Nat) (A0 : Option Addr) (c0 : Nat) (l0 : List (S45)) (r : List (S45)) (w : World) (hr0 : Kd.C k45 w A0 l0.length l0) (hc0 : l0.length ≤ c0) (h : zaI.f k l0 = some r) :
  Calls Try.prog 32 #[.slice A0 l0.length c0] w fun e w' => ∃ v0_ : Value, e = .returned (v0_) ∧ Kd.S k45 45 w' w.heap.size (fun _ => True) v0_ r ∧ Below w.heap.size w w' := by
 have hu45 := Try.underlying45
 have HR0 := zaa.mk hr0
 have HC0 := zaa.mk hc0
 clear hr0 hc0
 have HB := zaa.mk (Below.refl w.heap.size w)
 have H : (zaI.l0 k l0 ([] : List (S45)) 0) = some r := h
 clear h
 have H' := zaa.mk H
 clear H
 go_enter Try.func32, Try.ntmps32
 go_wp2
 go_loopg [3, 4] k (fun kq v3 v4 w' => ∃ (x3_1 : List (S45)) (x4_1 : Int), v4 = .int .i64 x4_1 ∧ zaa (zaI.l0 kq l0 x3_1 x4_1 = some r) ∧ zaa (kq ≤ k) ∧ zaa (Kd.S k45 45 w' w.heap.size (fun _ => True) v3 x3_1) ∧ zaa (Below w.heap.size w w'))
 case atStart => exact ⟨(([] : List (S45))), (0), (by first | rfl | (simp; done) | (simp [*]; done)), H', ⟨Nat.le_refl _⟩, ⟨by first | exact Kd.S_nil _ _ _ _ _ | exact Kd.N_nil _ _ _ _ _ | exact Kd.V_nil _ _ _ _ _ | exact Kd.Q_nil _ _ _ _ _ | exact Kd.R_nil _ _ _ _ _⟩, ⟨by repeat (first | (with_reducible first | exact HB.out | apply zac | apply zab | apply zad) | exact HB.out)⟩⟩
 case round =>
  clear H'
  obtain ⟨x3_1, x4_1, rfl, HA, HK1, HO_3, HB⟩ := hrel
  cases gk with
  | zero => exact absurd HA.out (by simp [zaI.l0])
  | succ k1 =>
   have H := HA.out
   clear HA
   simp only [zaI.l0] at H
   by_cases c2 : x4_1 < (l0.length : Int)
   ·rw [if_pos c2] at H
    have c2b0 : decide (x4_1 < (l0.length : Int)) = true := decide_eq_true c2
    clear c2
    by_cases c3 : 0 ≤ x4_1
    ·rw [if_pos c3] at H
     have c3b0 : decide (0 ≤ x4_1) = true := decide_eq_true c3
     clear c3
     replace H := Option.bind_eq_some_iff.mp H
     obtain ⟨⟨t129, t130, t133, t136, t137, t138⟩, A40, H⟩ := H
     replace H : (if x3_1.length < 1599289640401 then (zaI.l0 k1 l0 (x3_1 ++ [(⟨t129, t130, t133, t136, t137, t138⟩ : S45)]) (wrap64 (x4_1 + 1))) else (none)) = some r := H
     have A4 := zaa.mk A40
     clear A40
     by_cases c5 : x3_1.length < 1599289640401
     ·rw [if_pos c5] at H
      have LMc5 := zaa.mk c5
      clear c5
      obtain ⟨y139, hy139⟩ : ∃ y_ : List (S45), y_ = (x3_1 ++ [(⟨t129, t130, t133, t136, t137, t138⟩ : S45)]) := ⟨_, rfl⟩
      replace H : (zaI.l0 k1 l0 y139 (wrap64 (x4_1 + 1))) = some r := by first | (rw [hy139]; with_reducible exact H) | (have H2_ := (Option.bind_some _ _).symm.trans H; rw [hy139]; with_reducible exact H2_) | (have H2_ := (Option.bind_some _ _).symm.trans H; with_reducible exact H2_) | with_reducible exact H | (rw [hy139]; exact H) | exact H
      have Ny139 := zaa.mk hy139
      clear hy139
      have H' := zaa.mk H
      clear H
      have p128 : 0 ≤ (x4_1 : Int) := of_decide_eq_true (by first | (with_reducible assumption) | assumption)
      have q128 : x4_1 < (l0.length : Int) := of_decide_eq_true (by first | (with_reducible assumption) | assumption)
      obtain ⟨ad128, A128_1, c128_1, A128_2, c128_2, e128, hx128_0, hx128_1, hx128_2, hx128_3, hx128_4, hx128_5, hl128_1, hi128_1, hl128_2, hi128_2⟩ := zbn HR0.out x4_1 p128 q128
      cases e128
      replace hx128_0 := (HB.out.cell (World.block_lt_of_cell? w _ hx128_0)).trans hx128_0
      replace hx128_1 := (HB.out.cell (World.block_lt_of_cell? w _ hx128_1)).trans hx128_1
      replace hx128_2 := (HB.out.cell (World.block_lt_of_cell? w _ hx128_2)).trans hx128_2
      replace hx128_3 := (HB.out.cell (World.block_lt_of_cell? w _ hx128_3)).trans hx128_3
      replace hx128_4 := (HB.out.cell (World.block_lt_of_cell? w _ hx128_4)).trans hx128_4
      replace hx128_5 := (HB.out.cell (World.block_lt_of_cell? w _ hx128_5)).trans hx128_5
      have HR128_1 := zaa.mk hi128_1
      have HC128_1 := zaa.mk hl128_1
      clear hi128_1 hl128_1
      have HR128_2 := zaa.mk hi128_2
      have HC128_2 := zaa.mk hl128_2
      clear hi128_2 hl128_2
      replace p128 := eq_true p128
      replace q128 := eq_true q128
      go_wp2_with (first | ((with_reducible refine zaW (f := 58) rfl ?_); refine zbE (some 16) rfl rfl Try.func58 (by kernel_rfl) rfl #[.agg #[.int .i64 ((zae l0 x4_1).f0), .slice A128_1 ((zae l0 x4_1).f1).length c128_1, .slice A128_2 ((zae l0 x4_1).f2).length c128_2, .string ((zae l0 x4_1).f3), .int .i64 ((zae l0 x4_1).f4), .int .i64 ((zae l0 x4_1).f5)]] rfl (by (try simp only [List.map_toArray, List.map_cons, List.map_nil]); first | done | rfl | (simp only [List.length_drop, List.length_take]; rfl)) ?_; (with_reducible refine (zbI.calls k1 ((zae l0 x4_1).f0) _ _ ((zae l0 x4_1).f1) _ _ ((zae l0 x4_1).f2) ((zae l0 x4_1).f3) ((zae l0 x4_1).f4) ((zae l0 x4_1).f5) t129 t130 t133 t136 t137 t138 _ ?side1 ?side2 ?side3 ?side4 A4.out).mono ?_); (case side1 => repeat (first | exact (Kd.C_below HR128_1.out HB.out) | (with_reducible refine Kd.C_alloc ?_ _) | (with_reducible refine Kd.C_drewN ?_ _) | (with_reducible refine Kd.C_drew ?_))); (case side2 => exact HC128_1.out); (case side3 => repeat (first | exact (Kd.C_below HR128_2.out HB.out) | (with_reducible refine Kd.C_alloc ?_ _) | (with_reducible refine Kd.C_drewN ?_ _) | (with_reducible refine Kd.C_drew ?_))); (case side4 => exact HC128_2.out); rintro e w6 ⟨v131, v134, rfl, ho0, ho1, hb⟩; refine ⟨_, rfl, ?_⟩; have n0_ := zaa.mk (Kd.zbw (Kd.S_told (Kd.S_told (Kd.S_old (by (with_reducible repeat (first | apply Kd.zbt | apply Kd.zbs | apply Kd.zbJ)); exact HO_3.out) hb) (Kd.R_base ho0)) (Kd.R_base ho1)) (fun _ h_ => h_.1)); have n1_ := zaa.mk (Kd.R_lower ho0 (zao (by repeat (first | (with_reducible first | exact HB.out | apply zac | apply zab | apply zad) | exact HB.out)))); have n2_ := zaa.mk (Kd.R_lower ho1 (zao (by repeat (first | (with_reducible first | exact HB.out | apply zac | apply zab | apply zad) | exact HB.out)))); have n3_ := zaa.mk (zai (by repeat (first | (with_reducible first | exact HB.out | apply zac | apply zab | apply zad) | exact HB.out)) hb); clear HO_3; clear HB; have HO_3 := n0_; have HO132 := n1_; have HO135 := n2_; have HB := n3_; clear n0_ n1_ n2_ n3_; (try clear hb); (try clear hb2); (try clear hk); (try clear hi); (try clear ho0); (try clear ho1); obtain ⟨Ao8, co8, eo8⟩ := Kd.zco HO132.out; subst eo8; obtain ⟨Ao9, co9, eo9⟩ := Kd.zco HO135.out; subst eo9) | ((with_reducible refine zcs (b := .append) (xs := #[.tmp 11, .tmp 17]) rfl ?_); at_builtin; refine Kd.S_append k45 (w0 := w) w.heap.size rfl (.tmp 11) (.tmp 17) 22 45 (.agg #[(.int .i64 0), (.slice none 0 0), (.slice none 0 0), (.string ⟨#[]⟩), (.int .i64 0), (.int .i64 0)]) 88 rfl Try.underlying22 info45 rfl (by decide) (by omega) u3 x3_1 (⟨t129, t130, t133, t136, t137, t138⟩ : S45) [.int .i64 t129, .slice Ao8 t130.length co8, .slice Ao9 t133.length co9, .string t136, .int .i64 t137, .int .i64 t138] (fun _ => True) (fun k_ => some k_ = (.slice Ao8 t130.length co8 : Value).ownBlock ∨ some k_ = (.slice Ao9 t133.length co9 : Value).ownBlock) rfl rfl ?aP (fun k_ hk_ => hk_.elim (fun h_ => ((Kd.zby (ok' := fun k_ => ((fun _ => True)) k_ ∧ some k_ ≠ (u3 : Value).ownBlock) (Kd.R_apart' (HO132.out) (Kd.S_typed HO_3.out) (by decide)) (fun k_ hk => ⟨trivial, hk.2⟩))).1 k_ h_.symm) (fun h_ => ((Kd.zby (ok' := fun k_ => ((fun _ => True)) k_ ∧ some k_ ≠ (u3 : Value).ownBlock) (Kd.R_apart' (HO135.out) (Kd.S_typed HO_3.out) (by decide)) (fun k_ hk => ⟨trivial, hk.2⟩))).1 k_ h_.symm)) ?aF ?aO ?aB ?aS ?aL ?_; (case aP => exact k45_mkM _ _ _ (⟨t129, t130, t133, t136, t137, t138⟩ : S45) (Kd.zby (Kd.R_tight rfl (Kd.zby (ok' := fun k_ => ((fun _ => True)) k_ ∧ some k_ ≠ (u3 : Value).ownBlock) (Kd.R_apart' (HO132.out) (Kd.S_typed HO_3.out) (by decide)) (fun k_ hk => ⟨trivial, hk.2⟩))) (fun _ h_ => Or.inl h_)) (Kd.zby (Kd.R_tight rfl (Kd.zby (ok' := fun k_ => ((fun _ => True)) k_ ∧ some k_ ≠ (u3 : Value).ownBlock) (Kd.R_apart' (HO135.out) (Kd.S_typed HO_3.out) (by decide)) (fun k_ hk => ⟨trivial, hk.2⟩))) (fun _ h_ => Or.inr (h_)))); (case aB => exact (by repeat (first | (with_reducible first | exact HB.out | apply zac | apply zab | apply zad) | exact HB.out))); (case aF => exact (fun _ _ => trivial)); (case aO => exact (by (with_reducible repeat (first | apply Kd.zbt | apply Kd.zbs | apply Kd.zbJ)); exact Kd.zbw HO_3.out (fun k_ hk => ⟨trivial, fun e_ => e_.elim (fun h_ => hk.1.2 h_) (fun h_ => hk.2 h_)⟩))); (case aS => exact (zao (by repeat (first | (with_reducible first | exact HB.out | apply zac | apply zab | apply zad) | exact HB.out)))); (case aL => have := LMc5.out; omega); intro v140 w7 ho hb hg hat; rw [← Ny139.out] at ho; have n0_ := zaa.mk (hb); have n1_ := zaa.mk (ho); clear HB; clear HO_3; clear HO132; clear HO135; have HB := n0_; have HO141 := n1_; clear n0_ n1_; clear ho hb hg hat))
      go_roundg k1
      case measure => have := HK1.out; omega
      case rel => exact ⟨(y139), (wrap64 (x4_1 + 1)), (by first | rfl | (simp; done) | (simp [*]; done)), H', ⟨by have := HK1.out; omega⟩, ⟨by (with_reducible repeat (first | apply Kd.zbt | apply Kd.zbs | apply Kd.zbJ)); exact HO141.out⟩, ⟨by repeat (first | (with_reducible first | exact HB.out | apply zac | apply zab | apply zad) | exact HB.out)⟩⟩
     ·rw [if_neg c5] at H
      exact absurd H (by simp)
    ·rw [if_neg c3] at H
     exact absurd H (by simp)
   ·rw [if_neg c2] at H
    have c2b0 : decide (x4_1 < (l0.length : Int)) = false := decide_eq_false c2
    clear c2
    obtain rfl := Option.some.inj H
    go_wp2
    go_ret
    exact ⟨_, by first | rfl | (simp [zas, zar] <;> rfl) | (simp [*, zas, zar] <;> rfl), by (with_reducible repeat (first | apply Kd.zbt | apply Kd.zbs | apply Kd.zbJ)); exact HO_3.out, by repeat (first | (with_reducible first | exact HB.out | apply zac | apply zab | apply zad) | exact HB.out)⟩
def zbj.f (k : Nat) (l0_0 : List (S45)) : Option ((List (S45))) := (zaI.f k l0_0).bind fun t145 => (some t145)
set_option maxHeartbeats 8000000 in
set_option maxRecDepth 100000 in
theorem zbj.calls (k : Nat) (A0_0 : Option Addr) (c0_0 : Nat) (l0_0 : List (S45)) (r : List (S45)) (w : World) (hr0_0 : Kd.C k45 w A0_0 l0_0.length l0_0) (hc0_0 : l0_0.length ≤ c0_0) (h : zbj.f k l0_0 = some r) :
  Calls Try.prog 9 #[.agg #[.slice A0_0 l0_0.length c0_0]] w fun e w' => ∃ v0_ : Value, e = .returned (.agg #[v0_]) ∧ Kd.S k45 45 w' w.heap.size (fun _ => True) v0_ r ∧ Below w.heap.size w w' := by
 have hu24 := Try.underlying24
 have HR0_0 := zaa.mk hr0_0
 have HC0_0 := zaa.mk hc0_0
 clear hr0_0 hc0_0
 have HB := zaa.mk (Below.refl w.heap.size w)
 have H : ((zaI.f k l0_0).bind fun t145 => (some t145)) = some r := h
 clear h
 replace H := Option.bind_eq_some_iff.mp H
 obtain ⟨t145, A20, H⟩ := H
 replace H : (some t145) = some r := H
 have A2 := zaa.mk A20
 clear A20
 obtain rfl := Option.some.inj H
 go_enter Try.func9, Try.ntmps9
 go_wp2_with (first | ((with_reducible refine zaT (N := 1) rfl ?_); refine zaN ?hg (N := 1) ?hd (cs := #[.slice A0_0 l0_0.length c0_0]) (t := 24) ?hr ?_; (case hd => rfl); (case hg => rfl); (case hr => first | (go_simp; done) | (go_simp; rfl)); intro gb142 hg w3 hbox hb; have n0_ := zaa.mk (zai (by repeat (first | (with_reducible first | exact HB.out | apply zac | apply zab | apply zad) | exact HB.out)) hb); have n1_ := zaa.mk (hbox); have n2_ := zaa.mk ((by rw [hg]; exact (zao (by repeat (first | (with_reducible first | exact HB.out | apply zac | apply zab | apply zad) | exact HB.out))) : w.heap.size ≤ gb142)); have n3_ := zaa.mk ((by rw [hg]; exact (zao (by repeat (first | (with_reducible first | exact HB.out | apply zac | apply zab | apply zad) | exact HB.out))) : w.heap.size ≤ gb142)); clear HB; have HB := n0_; have BK142 := n1_; have GW142 := n2_; have GE142 := n3_; clear n0_ n1_ n2_ n3_; clear hb hbox hg) | ((with_reducible refine zaT (N := 2) rfl ?_); refine zaN ?hg (N := 2) ?hd (cs := #[.slice none 0 0]) (t := 24) ?hr ?_; (case hd => rfl); (case hg => rfl); (case hr => first | (go_simp; done) | (go_simp; rfl)); intro gb143 hg w4 hbox hb; have n0_ := zaa.mk (zaq (g := gb142) (o := .cells #[.slice A0_0 l0_0.length c0_0] 24 (0, 0)) (by (with_reducible repeat (first | refine zak ?_ _ | refine zam ?_ | refine zaj ?_ _)); exact BK142.out) hb); have n1_ := zaa.mk (zai (by repeat (first | (with_reducible first | exact HB.out | apply zac | apply zab | apply zad | refine zal ?_ GE142.out) | exact HB.out)) hb); have n2_ := zaa.mk (hbox); have n3_ := zaa.mk ((by rw [hg]; exact (zao (by repeat (first | (with_reducible first | exact HB.out | apply zac | apply zab | apply zad | refine zal ?_ GE142.out) | exact HB.out))) : w.heap.size ≤ gb143)); have n4_ := zaa.mk ((by rw [hg]; exact (zao (by repeat (first | (with_reducible first | exact HB.out | apply zac | apply zab | apply zad | refine zal ?_ GE142.out) | exact HB.out))) : w.heap.size ≤ gb143)); have n5_ := zaa.mk ((by rw [hg]; exact Nat.ne_of_lt (zaV (g := gb142) (o := .cells #[.slice A0_0 l0_0.length c0_0] 24 (0, 0)) (by (with_reducible repeat (first | refine zak ?_ _ | refine zam ?_ | refine zaj ?_ _)); exact BK142.out)) : gb142 ≠ gb143)); have n6_ := zaa.mk ((by rw [hg]; exact Nat.ne_of_gt (zaV (g := gb142) (o := .cells #[.slice A0_0 l0_0.length c0_0] 24 (0, 0)) (by (with_reducible repeat (first | refine zak ?_ _ | refine zam ?_ | refine zaj ?_ _)); exact BK142.out)) : gb143 ≠ gb142)); clear BK142; clear HB; have BK142 := n0_; have HB := n1_; have BK143 := n2_; have GW143 := n3_; have GE143 := n4_; have NB142_143 := n5_; have NB143_142 := n6_; clear n0_ n1_ n2_ n3_ n4_ n5_ n6_; clear hb hbox hg; have hnb5 := NB142_143.out; have hnc5 := NB143_142.out; have hcz6_0 : w4.cell? ⟨gb142, 0, none⟩ = some (.slice A0_0 l0_0.length c0_0) := (zah BK142.out 0).trans rfl; have hfz6_0 := zaf BK142.out 0) | ((with_reducible refine zaT (N := 3) rfl ?_); refine zaN ?hg (N := 3) ?hd (cs := #[.slice none 0 0]) (t := 24) ?hr ?_; (case hd => rfl); (case hg => rfl); (case hr => first | (go_simp; done) | (go_simp; rfl)); intro gb144 hg w7 hbox hb; have n0_ := zaa.mk (zaq (g := gb142) (o := .cells #[.slice A0_0 l0_0.length c0_0] 24 (0, 0)) (by (with_reducible repeat (first | refine zak ?_ _ | refine zam ?_ | refine zaj ?_ _)); exact BK142.out) hb); have n1_ := zaa.mk (zaq (g := gb143) (o := .cells #[.slice none 0 0] 24 (0, 0)) (by (with_reducible repeat (first | refine zak ?_ _ | refine zam ?_ | refine zaj ?_ _)); exact BK143.out) hb); have n2_ := zaa.mk (zai (by repeat (first | (with_reducible first | exact HB.out | apply zac | apply zab | apply zad | refine zal ?_ GE142.out | refine zal ?_ GE143.out) | exact HB.out)) hb); have n3_ := zaa.mk (hbox); have n4_ := zaa.mk ((by rw [hg]; exact (zao (by repeat (first | (with_reducible first | exact HB.out | apply zac | apply zab | apply zad | refine zal ?_ GE142.out | refine zal ?_ GE143.out) | exact HB.out))) : w.heap.size ≤ gb144)); have n5_ := zaa.mk ((by rw [hg]; exact (zao (by repeat (first | (with_reducible first | exact HB.out | apply zac | apply zab | apply zad | refine zal ?_ GE142.out | refine zal ?_ GE143.out) | exact HB.out))) : w.heap.size ≤ gb144)); have n6_ := zaa.mk ((by rw [hg]; exact Nat.ne_of_lt (zaV (g := gb142) (o := .cells #[.slice A0_0 l0_0.length c0_0] 24 (0, 0)) (by (with_reducible repeat (first | refine zak ?_ _ | refine zam ?_ | refine zaj ?_ _)); exact BK142.out)) : gb142 ≠ gb144)); have n7_ := zaa.mk ((by rw [hg]; exact Nat.ne_of_gt (zaV (g := gb142) (o := .cells #[.slice A0_0 l0_0.length c0_0] 24 (0, 0)) (by (with_reducible repeat (first | refine zak ?_ _ | refine zam ?_ | refine zaj ?_ _)); exact BK142.out)) : gb144 ≠ gb142)); have n8_ := zaa.mk ((by rw [hg]; exact Nat.ne_of_lt (zaV (g := gb143) (o := .cells #[.slice none 0 0] 24 (0, 0)) (by (with_reducible repeat (first | refine zak ?_ _ | refine zam ?_ | refine zaj ?_ _)); exact BK143.out)) : gb143 ≠ gb144)); have n9_ := zaa.mk ((by rw [hg]; exact Nat.ne_of_gt (zaV (g := gb143) (o := .cells #[.slice none 0 0] 24 (0, 0)) (by (with_reducible repeat (first | refine zak ?_ _ | refine zam ?_ | refine zaj ?_ _)); exact BK143.out)) : gb144 ≠ gb143)); clear BK142; clear BK143; clear HB; have BK142 := n0_; have BK143 := n1_; have HB := n2_; have BK144 := n3_; have GW144 := n4_; have GE144 := n5_; have NB142_144 := n6_; have NB144_142 := n7_; have NB143_144 := n8_; have NB144_143 := n9_; clear n0_ n1_ n2_ n3_ n4_ n5_ n6_ n7_ n8_ n9_; clear hb hbox hg; have hnb8 := NB144_142.out; have hnc8 := NB142_144.out; have hnb9 := NB144_143.out; have hnc9 := NB143_144.out; have hcz10_0 : w7.cell? ⟨gb144, 0, none⟩ = some (.slice none 0 0) := (zah BK144.out 0).trans rfl; have hfz10_0 := zaf BK144.out 0; have hcz11_0 : w7.cell? ⟨gb142, 0, none⟩ = some (.slice A0_0 l0_0.length c0_0) := (zah BK142.out 0).trans rfl; have hfz11_0 := zaf BK142.out 0) | ((with_reducible refine zaW (f := 32) rfl ?_); refine zbE (some 7) rfl rfl Try.func32 (by kernel_rfl) rfl #[.slice A0_0 l0_0.length c0_0] rfl (by (try simp only [List.map_toArray, List.map_cons, List.map_nil]); first | done | rfl | (simp only [List.length_drop, List.length_take]; rfl)) ?_; (with_reducible refine (zaI.calls k _ _ l0_0 t145 _ ?side1 ?side2 A2.out).mono ?_); (case side1 => exact Kd.C_below HR0_0.out (by repeat (first | (with_reducible first | exact HB.out | apply zac | apply zab | apply zad | refine zal ?_ GE142.out | refine zal ?_ GE143.out | refine zal ?_ GE144.out) | exact HB.out))); (case side2 => exact HC0_0.out); rintro e w12 ⟨v146, rfl, ho0, hb⟩; refine ⟨_, rfl, ?_⟩; have n0_ := zaa.mk (Kd.za8 ho0 (zao (by repeat (first | (with_reducible first | exact HB.out | apply zac | apply zab | apply zad | refine zal ?_ GE142.out | refine zal ?_ GE143.out | refine zal ?_ GE144.out) | exact HB.out)))); have n1_ := zaa.mk (zaq (g := gb142) (o := .cells #[.slice A0_0 l0_0.length c0_0] 24 (0, 0)) (by (with_reducible repeat (first | refine zak ?_ _ | refine zam ?_ | refine zaj ?_ _)); refine zaC ?_ NB142_144.out _; (with_reducible repeat (first | refine zak ?_ _ | refine zam ?_ | refine zaj ?_ _)); exact BK142.out) hb); have n2_ := zaa.mk (zaq (g := gb143) (o := .cells #[.slice none 0 0] 24 (0, 0)) (by (with_reducible repeat (first | refine zak ?_ _ | refine zam ?_ | refine zaj ?_ _)); refine zaC ?_ NB143_144.out _; (with_reducible repeat (first | refine zak ?_ _ | refine zam ?_ | refine zaj ?_ _)); exact BK143.out) hb); have n3_ := zaa.mk (zaq (g := gb144) (o := .cells #[.slice A0_0 l0_0.length c0_0] 24 (0, 0)) (by (with_reducible repeat (first | refine zak ?_ _ | refine zam ?_ | refine zaj ?_ _)); refine zaF (cs := #[.slice none 0 0]) ?_ 0 _ rfl; (with_reducible repeat (first | refine zak ?_ _ | refine zam ?_ | refine zaj ?_ _)); exact BK144.out) hb); have n4_ := zaa.mk (zai (by repeat (first | (with_reducible first | exact HB.out | apply zac | apply zab | apply zad | refine zal ?_ GE142.out | refine zal ?_ GE143.out | refine zal ?_ GE144.out) | exact HB.out)) hb); clear BK142; clear BK143; clear BK144; clear HB; have HO147 := n0_; have BK142 := n1_; have BK143 := n2_; have BK144 := n3_; have HB := n4_; clear n0_ n1_ n2_ n3_ n4_; (try clear hb); (try clear hb2); (try clear hk); (try clear hi); (try clear ho0); obtain ⟨Ao13, co13, eo13⟩ := Kd.zbc HO147.out; subst eo13; have hcz14_0 : w12.cell? ⟨gb144, 0, none⟩ = some (.slice A0_0 l0_0.length c0_0) := (zah BK144.out 0).trans rfl; have hfz14_0 := zaf BK144.out 0; have hcz15_0 : w12.cell? ⟨gb143, 0, none⟩ = some (.slice none 0 0) := (zah BK143.out 0).trans rfl; have hfz15_0 := zaf BK143.out 0))
 refine bodyPost_ret (results_cell_row rfl _ _ gb143 24 #[.slice Ao13 t145.length co13] (0, 0) _ rfl (by (with_reducible repeat (first | refine zak ?_ _ | refine zam ?_ | refine zaj ?_ _)); refine zaF (cs := #[.slice none 0 0]) ?_ 0 _ rfl; (with_reducible repeat (first | refine zak ?_ _ | refine zam ?_ | refine zaj ?_ _)); refine zaC ?_ NB143_144.out _; (with_reducible repeat (first | refine zak ?_ _ | refine zam ?_ | refine zaj ?_ _)); exact BK143.out) Try.underlying24 rfl (by kernel_rfl)) rfl ?_
 exact ⟨_, by first | rfl | (simp [zas, zar] <;> rfl) | (simp [*, zas, zar] <;> rfl), by (with_reducible repeat (first | apply Kd.zbt | apply Kd.zbs | apply Kd.zbJ)); exact Kd.zbw (Kd.S_far (p := ⟨gb143, 0, none⟩) (Kd.S_far (p := ⟨gb144, 0, none⟩) (Kd.S_types (Kd.S_types HO147.out BK144.out (by decide)) BK143.out (by decide)) (fun _ hk => hk.1.2) (.slice Ao13 t145.length co13)) (fun _ hk => hk.2) (.slice Ao13 t145.length co13)) (fun _ hk => trivial), by repeat (first | (with_reducible first | exact HB.out | apply zac | apply zab | apply zad | refine zal ?_ GE142.out | refine zal ?_ GE143.out | refine zal ?_ GE144.out) | exact HB.out)⟩
def zbi.f (a0 : Int) : Option (Int) := some a0
set_option maxHeartbeats 8000000 in
set_option maxRecDepth 100000 in
theorem zbi.calls (a0 : Int) (r : Int) (w : World) (h : zbi.f a0 = some r) :
  Calls Try.prog 10 #[.int .i64 a0] w fun e w' => e = .returned (.int .i64 r) ∧ zaK w w' := by
 have H : (some a0) = some r := h
 clear h
 obtain rfl := Option.some.inj H
 go_enter Try.func10, Try.ntmps10
 go_wp2
 go_ret
 exact ⟨by first | rfl | (simp; done) | (simp [*]; done), by repeat (first | exact zaK.refl _ | apply zaK.step)⟩
def za7.f (a0 : Int) : Option (Bool) := if a0 ≥ 0 then (some (decide (a0 ≤ 1125899906842624))) else (some false)
set_option maxHeartbeats 8000000 in
set_option maxRecDepth 100000 in
theorem za7.calls (a0 : Int) (r : Bool) (w : World) (h : za7.f a0 = some r) :
  Calls Try.prog 45 #[.int .i64 a0] w fun e w' => e = .returned (.bool r) ∧ zaK w w' := by
 have H : (if a0 ≥ 0 then (some (decide (a0 ≤ 1125899906842624))) else (some false)) = some r := h
 clear h
 by_cases c2 : a0 ≥ 0
 ·rw [if_pos c2] at H
  have c2b0 : decide (0 ≤ a0) = true := decide_eq_true c2
  clear c2
  obtain rfl := Option.some.inj H
  go_enter Try.func45, Try.ntmps45
  go_wp2
  go_ret
  exact ⟨by first | rfl | (simp; done) | (simp [*]; done), by repeat (first | exact zaK.refl _ | apply zaK.step)⟩
 ·rw [if_neg c2] at H
  have c2b0 : decide (0 ≤ a0) = false := decide_eq_false c2
  clear c2
  obtain rfl := Option.some.inj H
  go_enter Try.func45, Try.ntmps45
  go_wp2
  go_ret
  exact ⟨by first | rfl | (simp; done) | (simp [*]; done), by repeat (first | exact zaK.refl _ | apply zaK.step)⟩
def strings_IndexByte.f (a0 : ByteArray) (a1 : Int) : Option Int := some (Lib.indexByte a0.data.toList a1.toNat.toUInt8)
theorem strings_IndexByte.calls (a0 : ByteArray) (a1 : Int) (r : Int) (w : World) (h : strings_IndexByte.f a0 a1 = some r) :
  Calls Try.prog 37 #[.string a0, .int .u8 a1] w fun e w' => e = .returned (.int .i64 r) ∧ zaK w w' :=
 (Try.strings_IndexByte a0 a1 w).mono fun e w' ⟨he, hw⟩ => ⟨by rw [he, Option.some.inj h], hw ▸ zaK.refl _⟩
theorem up64 {i : Nat} (h : i < 9223372036854775807) : wrap64 ((i : Int) + 1) = ((i + 1 : Nat) : Int) := by unfold wrap64; omega
theorem bytes_eq {a b : ByteArray} : a.toList = b.toList ↔ a = b := by
 constructor
 ·intro h
  rw [ByteArray.toList_eq, ByteArray.toList_eq] at h
  cases a; cases b
  exact congrArg ByteArray.mk (Array.toList_inj.1 h)
 ·rintro rfl; rfl
theorem zb7 {a : ByteArray} : a.toList = ([] : List UInt8) ↔ a = ⟨#[]⟩ := by
 have e : (⟨#[]⟩ : ByteArray).toList = ([] : List UInt8) := by rw [ByteArray.toList_eq]
 exact ⟨fun h => bytes_eq.1 (h.trans e.symm), fun h => (bytes_eq.2 h).trans e⟩
theorem rd_get (a : List Int) (i : Nat) (h : i < a.length) : rd a (i : Int) = a[i] := by
 unfold rd; rw [Int.toNat_natCast, List.getD_eq_getElem?_getD, List.getElem?_eq_getElem h]; rfl
theorem zb1 (a : List S66) (i : Nat) (h : i < a.length) : zat a (i : Int) = a[i] := by
 unfold zat; rw [Int.toNat_natCast, List.getD_eq_getElem?_getD, List.getElem?_eq_getElem h]; rfl
theorem zb0 (a : List S45) (i : Nat) (h : i < a.length) : zae a (i : Int) = a[i] := by
 unfold zae; rw [Int.toNat_natCast, List.getD_eq_getElem?_getD, List.getElem?_eq_getElem h]; rfl
def EvB (g : Nat → Option Bool) (P : Prop) : Prop := ∃ r : Bool, Ev g r ∧ (r = true ↔ P)
theorem EvB.iff {g : Nat → Option Bool} {P Q : Prop} (h : EvB g P) (hpq : P ↔ Q) : EvB g Q := by
 obtain ⟨r, h1, h2⟩ := h; exact ⟨r, h1, h2.trans hpq⟩
theorem EvB.congr {g f : Nat → Option Bool} {P : Prop} (h : EvB f P) (e : ∀ k, g k = f k) : EvB g P := by
 obtain ⟨r, h1, h2⟩ := h; exact ⟨r, Ev.congr e h1, h2⟩
theorem EvB.step {g f : Nat → Option Bool} {P : Prop} (h : EvB f P) (e : ∀ k, g (k + 1) = f k) : EvB g P := by
 obtain ⟨r, h1, h2⟩ := h; exact ⟨r, Ev.step e h1, h2⟩
theorem EvB.now (b : Bool) : EvB (fun _ => some b) (b = true) := ⟨b, Ev.now b, Iff.rfl⟩
theorem EvB.no {P : Prop} (h : ¬ P) : EvB (fun _ => some false) P := ⟨false, Ev.now _, by simp [h]⟩
theorem EvB.yes {P : Prop} (h : P) : EvB (fun _ => some true) P := ⟨true, Ev.now _, by simp [h]⟩
theorem EvB.and {g f : Nat → Option Bool} {P Q : Prop} (h : EvB g P) (h' : P → EvB f Q) : EvB (fun k => (g k).bind fun t => if t = true then f k else some false) (P ∧ Q) := by
 obtain ⟨r, h1, h2⟩ := h
 cases r with
 | true =>
  obtain ⟨q, h3, h4⟩ := h' (h2.1 rfl)
  exact ⟨q, Ev.bind (f := fun k t => if t = true then f k else some false) h1 (Ev.congr (fun k => if_pos rfl) h3), h4.trans ⟨fun h => ⟨h2.1 rfl, h⟩, And.right⟩⟩
 | false => exact ⟨false, Ev.bind (f := fun k t => if t = true then f k else some false) h1 (Ev.congr (fun k => if_neg (by simp)) (Ev.now false)), by constructor <;> intro h; cases h; exact absurd (h2.2 h.1) (by simp)⟩
theorem EvB.same {g : Nat → Option Bool} {P : Prop} (h : EvB g P) : EvB (fun k => (g k).bind fun t => some t) P := by
 obtain ⟨r, h1, h2⟩ := h
 exact ⟨r, Ev.bind (f := fun _ t => some t) h1 (Ev.now r), h2⟩
theorem EvB.out {g : Nat → Option Bool} {P : Prop} (h : EvB g P) (hp : P) : Ev g true := by
 obtain ⟨r, h1, h2⟩ := h; rwa [h2.2 hp] at h1
theorem EvB.not {g : Nat → Option Bool} {P : Prop} (h : EvB g P) (hp : ¬ P) : Ev g false := by
 obtain ⟨r, h1, h2⟩ := h
 cases r with
 | true => exact absurd (h2.1 rfl) hp
 | false => exact h1
theorem Ev.one {α : Type} {g : Nat → Option α} {a b : α} (h : Ev g a) (h' : Ev g b) : a = b := by
 obtain ⟨K, hK⟩ := h; obtain ⟨K', hK'⟩ := h'
 have h1 := hK (max K K') (Nat.le_max_left _ _)
 rw [hK' (max K K') (Nat.le_max_right _ _)] at h1
 exact (Option.some.inj h1).symm
theorem drop_eq {α : Type} {a b : List α} {i : Nat} (h : i < a.length) (h' : i < b.length) : a.drop i = b.drop i ↔ a[i] = b[i] ∧ a.drop (i + 1) = b.drop (i + 1) := by
 rw [List.drop_eq_getElem_cons h, List.drop_eq_getElem_cons h', List.cons.injEq]
theorem eqBytes_l0 (a b : List Int) (hl : a.length = b.length) (hm : a.length < 9223372036854775807) : ∀ (d i : Nat), i + d = a.length → EvB (fun k => zaS.l0 k a b (i : Int)) (a.drop i = b.drop i)
 | 0, i, h => EvB.step (EvB.yes (by rw [List.drop_eq_nil_of_le (by omega), List.drop_eq_nil_of_le (by omega)])) (fun k => by rw [zaS.l0, if_neg (by omega)])
 | d + 1, i, h => by
  rw [drop_eq (by omega) (by omega), ← rd_get a i (by omega), ← rd_get b i (by omega)]
  by_cases e : rd a (i : Int) = rd b (i : Int)
  ·refine EvB.step ((eqBytes_l0 a b hl hm d (i + 1) (by omega)).iff ⟨fun h => ⟨e, h⟩, And.right⟩) (fun k => ?_)
   rw [zaS.l0, if_pos (by omega), if_pos (by omega), if_pos (by omega), if_pos e, up64 (by omega)]
  ·refine EvB.step (EvB.no (fun h => e h.1)) (fun k => ?_)
   rw [zaS.l0, if_pos (by omega), if_pos (by omega), if_pos (by omega), if_neg e]
theorem eqBytes (a b : List Int) (hm : a.length < 9223372036854775807) : EvB (fun k => zaS.f k a b) (a = b) := by
 by_cases hl : a.length = b.length
 ·exact ((eqBytes_l0 a b hl hm a.length 0 (by omega)).iff (by simp)).congr (fun k => by unfold zaS.f; rw [if_pos (by omega)]; rfl)
 ·exact (EvB.no (fun e => hl (by rw [e]))).congr (fun k => by unfold zaS.f; rw [if_neg (by omega)])
theorem name_ext (x y : S66) : x = y ↔ x.f0 = y.f0 ∧ x.f1 = y.f1 := by
 cases x; cases y; simp
theorem eqNames_l0 (a b : List S66) (hl : a.length = b.length) (hm : a.length < 9223372036854775807) : ∀ (d i : Nat), i + d = a.length → EvB (fun k => zaO.l0 k a b (i : Int)) (a.drop i = b.drop i)
 | 0, i, h => EvB.step (EvB.yes (by rw [List.drop_eq_nil_of_le (by omega), List.drop_eq_nil_of_le (by omega)])) (fun k => by rw [zaO.l0, if_neg (by omega)])
 | d + 1, i, h => by
  rw [drop_eq (by omega) (by omega), ← zb1 a i (by omega), ← zb1 b i (by omega)]
  by_cases e : zat a (i : Int) = zat b (i : Int)
  ·refine EvB.step ((eqNames_l0 a b hl hm d (i + 1) (by omega)).iff ⟨fun h => ⟨e, h⟩, And.right⟩) (fun k => ?_)
   rw [zaO.l0, if_pos (by omega), if_pos (by omega), if_pos (by omega), if_neg (by rw [e]; simp), up64 (by omega)]
  ·refine EvB.step (EvB.no (fun h => e h.1)) (fun k => ?_)
   rw [zaO.l0, if_pos (by omega), if_pos (by omega), if_pos (by omega), if_pos]
   rw [name_ext] at e
   rw [Bool.or_eq_true, Bool.not_eq_true', Bool.not_eq_true', beq_eq_false_iff_ne, beq_eq_false_iff_ne, Ne, Ne, bytes_eq]
   exact Decidable.or_iff_not_imp_left.2 fun h1 h2 => e ⟨Decidable.not_not.1 h1, h2⟩
theorem eqNames (a b : List S66) (hm : a.length < 9223372036854775807) : EvB (fun k => zaO.f k a b) (a = b) := by
 by_cases hl : a.length = b.length
 ·exact ((eqNames_l0 a b hl hm a.length 0 (by omega)).iff (by simp)).congr (fun k => by unfold zaO.f; rw [if_pos (by omega)]; rfl)
 ·exact (EvB.no (fun e => hl (by rw [e]))).congr (fun k => by unfold zaO.f; rw [if_neg (by omega)])
def eqNodeF (k : Nat) (x y : S45) : Option Bool := zaB.f k x.f0 x.f1 x.f2 x.f3 x.f4 x.f5 y.f0 y.f1 y.f2 y.f3 y.f4 y.f5
theorem node_ext (x y : S45) : x = y ↔ x.f0 = y.f0 ∧ x.f1 = y.f1 ∧ x.f2 = y.f2 ∧ x.f3 = y.f3 ∧ x.f4 = y.f4 ∧ x.f5 = y.f5 := by
 cases x; cases y; simp
def FitsN (x : S45) : Prop := x.f1.length < 140737488355328 ∧ x.f2.length < 5864062014805
theorem eqNode (x y : S45) (hx : FitsN x) : EvB (fun k => eqNodeF k x y) (x = y) := by
 rw [node_ext]
 unfold eqNodeF zaB.f
 by_cases h0 : x.f0 = y.f0
 ·refine EvB.iff (P := x.f1 = y.f1 ∧ x.f2 = y.f2 ∧ x.f3 = y.f3 ∧ x.f4 = y.f4 ∧ x.f5 = y.f5) ?_ ⟨fun h => ⟨h0, h⟩, And.right⟩
  refine (EvB.and (eqBytes x.f1 y.f1 (by have := hx.1; omega)) (fun _ => EvB.and (eqNames x.f2 y.f2 (by have := hx.2; omega)) (fun _ => ?_))).congr (fun k => by rw [if_pos h0])
  by_cases h3 : x.f3.toList = y.f3.toList
  ·by_cases h4 : x.f4 = y.f4
   ·exact ((EvB.now (x.f5 == y.f5)).iff ⟨fun h => ⟨bytes_eq.1 h3, h4, beq_iff_eq.1 h⟩, fun h => beq_iff_eq.2 h.2.2⟩).congr (fun k => by rw [if_pos h3, if_pos h4])
   ·exact (EvB.no (fun h => h4 h.2.1)).congr (fun k => by rw [if_pos h3, if_neg h4])
  ·exact (EvB.no (fun h => h3 (bytes_eq.2 h.1))).congr (fun k => by rw [if_neg h3])
 ·exact (EvB.no (fun h => h0 h.1)).congr (fun k => by rw [if_neg h0])
theorem eqNodes_l0 (a b : List S45) (hl : a.length = b.length) (hm : a.length < 9223372036854775807) (hf : ∀ x ∈ a, FitsN x) : ∀ (d i : Nat), i + d = a.length → EvB (fun k => zay.l0 k a b (i : Int)) (a.drop i = b.drop i)
 | 0, i, h => EvB.step (EvB.yes (by rw [List.drop_eq_nil_of_le (by omega), List.drop_eq_nil_of_le (by omega)])) (fun k => by rw [zay.l0, if_neg (by omega)])
 | d + 1, i, h => by
  rw [drop_eq (by omega) (by omega), ← zb0 a i (by omega), ← zb0 b i (by omega)]
  have hx : FitsN (zae a (i : Int)) := by rw [zb0 a i (by omega)]; exact hf _ (List.getElem_mem _)
  refine EvB.step (EvB.and (eqNode (zae a (i : Int)) (zae b (i : Int)) hx) (fun _ => eqNodes_l0 a b hl hm hf d (i + 1) (by omega))) (fun k => ?_)
  rw [zay.l0, if_pos (by omega), if_pos (by omega), if_pos (by omega), up64 (by omega)]; rfl
theorem eqNodes (a b : List S45) (hm : a.length < 9223372036854775807) (hf : ∀ x ∈ a, FitsN x) : EvB (fun k => zay.f k a b) (a = b) := by
 by_cases hl : a.length = b.length
 ·exact ((eqNodes_l0 a b hl hm hf a.length 0 (by omega)).iff (by simp)).congr (fun k => by unfold zay.f; rw [if_pos (by omega)]; rfl)
 ·exact (EvB.no (fun e => hl (by rw [e]))).congr (fun k => by unfold zay.f; rw [if_neg (by omega)])
theorem eqTree (a b : List S45) (hm : a.length < 9223372036854775807) (hf : ∀ x ∈ a, FitsN x) : EvB (fun k => zcd.f k a b) (a = b) := (eqNodes a b hm hf).same
theorem take_next {α : Type} (a : List α) (i : Nat) (h : i < a.length) : a.take i ++ [a[i]] = a.take (i + 1) := by
 rw [List.take_succ_eq_append_getElem h]
theorem copyBytes_l0 (a : List Int) (hm : a.length < 140737488355328) : ∀ (d i : Nat), i + d = a.length → Ev (fun k => zaQ.l0 k a (a.take i) (i : Int)) a
 | 0, i, h => Ev.step (f := fun _ => some a) (fun k => by rw [zaQ.l0, if_neg (by omega), List.take_of_length_le (by omega)]) (Ev.now a)
 | d + 1, i, h => by
  refine Ev.step (fun k => ?_) (copyBytes_l0 a hm d (i + 1) (by omega))
  rw [zaQ.l0, if_pos (by omega), if_pos (by omega), if_pos (by rw [List.length_take]; omega), up64 (by omega), rd_get a i (by omega), take_next a i (by omega)]
theorem copyBytes (a : List Int) (hm : a.length < 140737488355328) : Ev (fun k => zaQ.f k a) a := copyBytes_l0 a hm a.length 0 (by omega)
theorem copyNames_l0 (a : List S66) (hm : a.length < 5864062014805) : ∀ (d i : Nat), i + d = a.length → Ev (fun k => zaM.l0 k a (a.take i) (i : Int)) a
 | 0, i, h => Ev.step (f := fun _ => some a) (fun k => by rw [zaM.l0, if_neg (by omega), List.take_of_length_le (by omega)]) (Ev.now a)
 | d + 1, i, h => by
  refine Ev.step (fun k => ?_) (copyNames_l0 a hm d (i + 1) (by omega))
  rw [zaM.l0, if_pos (by omega), if_pos (by omega), if_pos (by rw [List.length_take]; omega), up64 (by omega), zb1 a i (by omega)]
  rw [show (⟨a[i].f0, a[i].f1⟩ : S66) = a[i] from rfl, take_next a i (by omega)]
theorem copyNames (a : List S66) (hm : a.length < 5864062014805) : Ev (fun k => zaM.f k a) a := copyNames_l0 a hm a.length 0 (by omega)
theorem copyNode (x : S45) (hx : FitsN x) : Ev (fun k => zbI.f k x.f0 x.f1 x.f2 x.f3 x.f4 x.f5) (x.f0, x.f1, x.f2, x.f3, x.f4, x.f5) :=
 Ev.bind (f := fun k t => (zaM.f k x.f2).bind fun u => some (x.f0, t, u, x.f3, x.f4, x.f5)) (copyBytes x.f1 hx.1) (Ev.bind (f := fun _ u => some (x.f0, x.f1, u, x.f3, x.f4, x.f5)) (copyNames x.f2 hx.2) (Ev.now _))
theorem copyNodes_l0 (a : List S45) (hm : a.length < 1599289640401) (hf : ∀ x ∈ a, FitsN x) : ∀ (d i : Nat), i + d = a.length → Ev (fun k => zaI.l0 k a (a.take i) (i : Int)) a
 | 0, i, h => Ev.step (f := fun _ => some a) (fun k => by rw [zaI.l0, if_neg (by omega), List.take_of_length_le (by omega)]) (Ev.now a)
 | d + 1, i, h => by
  have hx : FitsN (zae a (i : Int)) := by rw [zb0 a i (by omega)]; exact hf _ (List.getElem_mem _)
  refine Ev.step (fun k => ?_) (Ev.bind (f := fun k q => zaI.l0 k a (a.take i ++ [(⟨q.1, q.2.1, q.2.2.1, q.2.2.2.1, q.2.2.2.2.1, q.2.2.2.2.2⟩ : S45)]) ((i + 1 : Nat) : Int)) (copyNode (zae a (i : Int)) hx) ?_)
  ·rw [zaI.l0, if_pos (by omega), if_pos (by omega)]
   congr 1; funext q
   rw [if_pos (by rw [List.length_take]; omega), up64 (by omega)]
  ·refine Ev.congr (fun k => ?_) (copyNodes_l0 a hm hf d (i + 1) (by omega))
   rw [zb0 a i (by omega)]
   show zaI.l0 k a (a.take i ++ [a[i]]) _ = _
   rw [take_next a i (by omega)]
theorem copyNodes (a : List S45) (hm : a.length < 1599289640401) (hf : ∀ x ∈ a, FitsN x) : Ev (fun k => zaI.f k a) a := copyNodes_l0 a hm hf a.length 0 (by omega)
theorem copyTree (a : List S45) (hm : a.length < 1599289640401) (hf : ∀ x ∈ a, FitsN x) : Ev (fun k => zbj.f k a) a :=
 Ev.bind (f := fun _ t => some t) (copyNodes a hm hf) (Ev.now a)
def zaE.j0 : Nat → ByteArray → Bool → Option (Int)
 | 0, _, _ => none
 | k + 1, x0, x3 => if x3 = true then (some 28) else (if (x0.size : Int) > 64 then (some 37) else (some 0))
def zaE.f (k : Nat) (a0 : ByteArray) : Option (Int) := if a0.toList = ([] : List UInt8) then (zaE.j0 k a0 true) else (if a0.toList = ([46] : List UInt8) then (zaE.j0 k a0 true) else (if a0.toList = ([46, 46] : List UInt8) then (zaE.j0 k a0 true) else ((strings_IndexByte.f a0 0).bind fun t148 => (if t148 ≥ 0 then (zaE.j0 k a0 true) else ((strings_IndexByte.f a0 47).bind fun t149 => (zaE.j0 k a0 (decide (t149 ≥ 0))))))))
theorem zaE.mono_l : ∀ k, (∀ y0 y1, LeO (zaE.j0 k y0 y1) (zaE.j0 (k + 1) y0 y1))
 | 0 => fun _ _ r h => by simp [zaE.j0] at h
 | k + 1 => by
  have ih0 := zaE.mono_l k
  ·intro y0 y1
   unfold zaE.j0
   repeat' first
   | (with_reducible exact ih0 _ _)
   | (with_reducible exact LeO.refl _)
   | (with_reducible exact LeO.none _)
   | (with_reducible refine LeO.ite ?_ ?_)
   | (with_reducible refine LeO.bind ?_ (fun _ => ?_))
   | exact ih0 _ _
   | exact LeO.none _
   | refine LeO.ite ?_ ?_
   | refine LeO.bind ?_ (fun _ => ?_)
theorem zaE.mono : ∀ a0 k, LeO (zaE.f k a0) (zaE.f (k + 1) a0) := by
 intro a0 k
 have ih0 := zaE.mono_l k
 unfold zaE.f
 repeat' first
   | (with_reducible exact ih0 _ _)
   | (with_reducible exact LeO.refl _)
   | (with_reducible exact LeO.none _)
   | (with_reducible refine LeO.ite ?_ ?_)
   | (with_reducible refine LeO.bind ?_ (fun _ => ?_))
   | exact ih0 _ _
   | exact LeO.none _
   | refine LeO.ite ?_ ?_
   | refine LeO.bind ?_ (fun _ => ?_)
set_option maxHeartbeats 8000000 in
set_option maxRecDepth 100000 in
theorem zaE.calls (k : Nat) (a0 : ByteArray) (r : Int) (w : World) (h : zaE.f k a0 = some r) :
  Calls Try.prog 14 #[.string a0] w fun e w' => e = .returned (.int .i64 r) ∧ zaK w w' := by
 have H : (if a0.toList = ([] : List UInt8) then (zaE.j0 k a0 true) else (if a0.toList = ([46] : List UInt8) then (zaE.j0 k a0 true) else (if a0.toList = ([46, 46] : List UInt8) then (zaE.j0 k a0 true) else ((strings_IndexByte.f a0 0).bind fun t148 => (if t148 ≥ 0 then (zaE.j0 k a0 true) else ((strings_IndexByte.f a0 47).bind fun t149 => (zaE.j0 k a0 (decide (t149 ≥ 0))))))))) = some r := h
 clear h
 have HC2 := zaa.mk H
 clear H
 go_enter Try.func14, Try.ntmps14
 go_upto_region 1 with (fail)
 go_cut [3] (fun v3 wc => ∃ (kq : Nat) (x3_1 : Bool), v3 = .bool x3_1 ∧ zaa (zaE.j0 kq a0 x3_1 = some r) ∧ zaa (kq ≤ k) ∧ zaK w wc)
 case first =>
  have H := HC2.out
  clear HC2
  by_cases c3 : a0.toList = ([] : List UInt8)
  ·rw [if_pos c3] at H
   have c3b0 : (a0.toList == ([] : List UInt8)) = true := beq_iff_eq.mpr c3
   have c3b1 : (a0.toList != ([] : List UInt8)) = false := bne_eq_false_iff_eq.mpr c3
   clear c3
   (first | rw [c3b0] | (simp only [zbq, zbv]; rw [c3b0]) | skip)
   have H' := zaa.mk H
   clear H
   go_wp2
   go_meet
   case rel => exact ⟨_, (true), (by first | rfl | (simp; done) | (simp [*]; done)), H', ⟨by first | omega | exact Nat.le_refl _⟩, by repeat (first | exact zaK.refl _ | apply zaK.step)⟩
  ·rw [if_neg c3] at H
   have c3b0 : (a0.toList == ([] : List UInt8)) = false := beq_eq_false_iff_ne.mpr c3
   have c3b1 : (a0.toList != ([] : List UInt8)) = true := bne_iff_ne.mpr c3
   (first | rw [c3b0] | (simp only [zbq, zbv]; rw [c3b0]) | skip)
   by_cases c4 : a0.toList = ([46] : List UInt8)
   ·rw [if_pos c4] at H
    have c4b0 : (a0.toList == ([46] : List UInt8)) = true := beq_iff_eq.mpr c4
    have c4b1 : (a0.toList != ([46] : List UInt8)) = false := bne_eq_false_iff_eq.mpr c4
    clear c4
    have H' := zaa.mk H
    clear H
    go_wp2
    go_meet
    case rel => exact ⟨_, (true), (by first | rfl | (simp; done) | (simp [*]; done)), H', ⟨by first | omega | exact Nat.le_refl _⟩, by repeat (first | exact zaK.refl _ | apply zaK.step)⟩
   ·rw [if_neg c4] at H
    have c4b0 : (a0.toList == ([46] : List UInt8)) = false := beq_eq_false_iff_ne.mpr c4
    have c4b1 : (a0.toList != ([46] : List UInt8)) = true := bne_iff_ne.mpr c4
    by_cases c5 : a0.toList = ([46, 46] : List UInt8)
    ·rw [if_pos c5] at H
     have c5b0 : (a0.toList == ([46, 46] : List UInt8)) = true := beq_iff_eq.mpr c5
     have c5b1 : (a0.toList != ([46, 46] : List UInt8)) = false := bne_eq_false_iff_eq.mpr c5
     clear c5
     have H' := zaa.mk H
     clear H
     go_wp2
     go_meet
     case rel => exact ⟨_, (true), (by first | rfl | (simp; done) | (simp [*]; done)), H', ⟨by first | omega | exact Nat.le_refl _⟩, by repeat (first | exact zaK.refl _ | apply zaK.step)⟩
    ·rw [if_neg c5] at H
     have c5b0 : (a0.toList == ([46, 46] : List UInt8)) = false := beq_eq_false_iff_ne.mpr c5
     have c5b1 : (a0.toList != ([46, 46] : List UInt8)) = true := bne_iff_ne.mpr c5
     replace H := Option.bind_eq_some_iff.mp H
     obtain ⟨t148, A60, H⟩ := H
     replace H : (if t148 ≥ 0 then (zaE.j0 k a0 true) else ((strings_IndexByte.f a0 47).bind fun t149 => (zaE.j0 k a0 (decide (t149 ≥ 0))))) = some r := H
     have A6 := zaa.mk A60
     clear A60
     by_cases c7 : t148 ≥ 0
     ·rw [if_pos c7] at H
      have c7b0 : decide (0 ≤ t148) = true := decide_eq_true c7
      clear c7
      have H' := zaa.mk H
      clear H
      go_wp2_with (first | (go_at_call 37; (with_reducible refine (strings_IndexByte.calls a0 0 t148 _ A6.out).mono ?_); rintro e w' ⟨rfl, ⟨nd, rfl⟩⟩))
      go_meet
      case rel => exact ⟨_, (true), (by first | rfl | (simp; done) | (simp [*]; done)), H', ⟨by first | omega | exact Nat.le_refl _⟩, by repeat (first | exact zaK.refl _ | apply zaK.step)⟩
     ·rw [if_neg c7] at H
      have c7b0 : decide (0 ≤ t148) = false := decide_eq_false c7
      clear c7
      replace H := Option.bind_eq_some_iff.mp H
      obtain ⟨t149, A80, H⟩ := H
      replace H : (zaE.j0 k a0 (decide (t149 ≥ 0))) = some r := H
      have A8 := zaa.mk A80
      clear A80
      have H' := zaa.mk H
      clear H
      go_wp2_with (first | (go_at_call 37; (with_reducible refine (strings_IndexByte.calls a0 0 t148 _ A6.out).mono ?_); rintro e w' ⟨rfl, ⟨nd, rfl⟩⟩) | (go_at_call 37; (with_reducible refine (strings_IndexByte.calls a0 47 t149 _ A8.out).mono ?_); rintro e w' ⟨rfl, ⟨nd, rfl⟩⟩))
      go_meet
      case rel => exact ⟨_, (decide (t149 ≥ 0)), (by first | rfl | (simp; done) | (simp [*]; done)), H', ⟨by first | omega | exact Nat.le_refl _⟩, by repeat (first | exact zaK.refl _ | apply zaK.step)⟩
 case rest =>
  clear HC2
  try clear c1
  try clear p2
  try clear c3
  try clear c3b0
  try clear c3b1
  try clear c4
  try clear c4b0
  try clear c4b1
  try clear c5
  try clear c5b0
  try clear c5b1
  try clear c7
  try clear c7b0
  obtain ⟨kq, x3_1, rfl, HA, HJ1, ⟨mc1, rfl⟩⟩ := hcut
  cases kq with
  | zero => exact absurd HA.out (by simp [zaE.j0])
  | succ kj1 =>
   have H := HA.out
   clear HA
   simp only [zaE.j0] at H
   by_cases c9 : x3_1 = true
   ·subst c9
    have H1 : (some 28) = some r := by rw [if_pos rfl] at H; exact H
    clear H
    have H := H1
    clear H1
    obtain rfl := Option.some.inj H
    go_wp2
    go_ret
    exact ⟨by first | rfl | (simp; done) | (simp [*]; done), by repeat (first | exact zaK.refl _ | apply zaK.step)⟩
   ·replace c9 := Bool.eq_false_iff.mpr c9
    subst c9
    have H1 : (if (a0.size : Int) > 64 then (some 37) else (some 0)) = some r := by rw [if_neg (show ¬ (false = true) by decide)] at H; exact H
    clear H
    have H := H1
    clear H1
    by_cases c10 : (a0.size : Int) > 64
    ·rw [if_pos c10] at H
     have c10b0 : decide (64 < (a0.size : Int)) = true := decide_eq_true c10
     have c10b1 : decide (64 < a0.size) = true := decide_eq_true (by omega)
     clear c10
     obtain rfl := Option.some.inj H
     go_wp2
     go_ret
     exact ⟨by first | rfl | (simp; done) | (simp [*]; done), by repeat (first | exact zaK.refl _ | apply zaK.step)⟩
    ·rw [if_neg c10] at H
     have c10b0 : decide (64 < (a0.size : Int)) = false := decide_eq_false c10
     have c10b1 : decide (64 < a0.size) = false := decide_eq_false (by omega)
     clear c10
     obtain rfl := Option.some.inj H
     go_wp2
     go_ret
     exact ⟨by first | rfl | (simp; done) | (simp [*]; done), by repeat (first | exact zaK.refl _ | apply zaK.step)⟩
def nameE (s : ByteArray) : Int := (zaE.f 1 s).getD 0
theorem nameE_f (s : ByteArray) : zaE.f 1 s = some (nameE s) := by
 unfold nameE zaE.f
 simp only [strings_IndexByte.f, zaE.j0, Option.bind_some]
 repeat' split
 all_goals rfl
def okName (l : List S45) (ns : List S66) (i : Nat) : Bool :=
 (nameE (zat ns i).f0 == 0) && (i == 0 || Op.bytesLess (zat ns ((i : Int) - 1)).f0.toList (zat ns i).f0.toList) &&
 (decide (1 ≤ (zat ns i).f1) && (decide ((zat ns i).f1 < (l.length : Int)) && ((zae l (zat ns i).f1).f0 != 0)))
def okNames (l : List S45) (ns : List S66) (n : Nat) : Bool := (List.range n).all (okName l ns)
theorem okNames_succ (l : List S45) (ns : List S66) (n : Nat) : okNames l ns (n + 1) = (okNames l ns n && okName l ns n) := by
 unfold okNames; rw [List.range_succ, List.all_append]; simp
theorem zbR {l : List S45} {ns : List S66} {i n : Nat} (hi : i < n) (h : okName l ns i = false) : okNames l ns n = false := by
 unfold okNames
 rw [List.all_eq_false]
 exact ⟨i, List.mem_range.2 hi, by simp [h]⟩
def zcq.f (l0_0 : List S45) (l1 : List S66) : Option Bool := some (okNames l0_0 l1 l1.length && decide ((l1.length : Int) ≤ 64))
set_option maxHeartbeats 4000000 in
set_option maxRecDepth 100000 in
theorem zcq.calls (A0_0 : Option Addr) (c0_0 : Nat) (l0_0 : List S45) (A1 : Option Addr) (c1 : Nat) (l1 : List S66) (r : Bool) (w : World) (hr0_0 : Kd.C k45 w A0_0 l0_0.length l0_0) (hc0_0 : l0_0.length ≤ c0_0) (hr1 : Kd.C k66 w A1 l1.length l1) (hc1 : l1.length ≤ c1) (h : zcq.f l0_0 l1 = some r) :
  Calls Try.prog 72 #[.agg #[.slice A0_0 l0_0.length c0_0], .slice A1 l1.length c1] w fun e w' => e = .returned (.bool r) ∧ Below w.heap.size w w' := by
 have HH := zaa.mk (Option.some.inj h)
 have HR := zaa.mk hr0_0
 have HR1 := zaa.mk hr1
 have HM := zaa.mk hr1.2.1
 have hut := Try.underlying24
 have hun := Try.underlying66
 clear hr0_0 hc0_0 hr1 hc1 h
 go_enter Try.func72, Try.ntmps72
 go_wp2
 go_loopw [9] (fun v9 w' => ∃ i : Nat, i ≤ l1.length ∧ v9 = .int .i64 i ∧ zaa (okNames l0_0 l1 i = true) ∧ zaa (Below (w.alloc (.cells #[.slice A0_0 l0_0.length c0_0] 24)).heap.size (w.alloc (.cells #[.slice A0_0 l0_0.length c0_0] 24)) w')) (fun v9 _ => l1.length - (intOf v9).toNat)
 case atStart => exact ⟨0, Nat.zero_le _, rfl, ⟨rfl⟩, ⟨Below.refl _ _⟩⟩
 case round =>
  obtain ⟨i, hi, rfl, HE, HB⟩ := hrel
  have hmax := HM.out
  have HB0 := zaa.mk (zai (zac (Below.refl w.heap.size w) (.cells #[.slice A0_0 l0_0.length c0_0] 24)) HB.out)
  have hct : wr.cell? ⟨w.heap.size, 0, none⟩ = some (.slice A0_0 l0_0.length c0_0) := (zah ((HB.out.block w.heap.size (by simp)).trans (zbC w _)) 0).trans rfl
  by_cases hlt : i < l1.length
  ·obtain ⟨ad, rfl, hx0, hx1⟩ := zce HR1.out (i : Int) (by omega) (by omega)
   replace hx0 := (HB0.out.cell (World.block_lt_of_cell? w _ hx0)).trans hx0
   replace hx1 := (HB0.out.cell (World.block_lt_of_cell? w _ hx1)).trans hx1
   rw [Int.toNat_natCast] at hx0 hx1
   have hct2 : (wr.alloc (.cells #[.string (zat l1 i).f0, .int .i64 (zat l1 i).f1] 66)).cell? ⟨w.heap.size, 0, none⟩ = some (.slice A0_0 l0_0.length c0_0) := (World.cell?_alloc_lt _ _ _ (World.block_lt_of_cell? _ _ hct)).trans hct
   have HN := zaa.mk (nameE_f (zat l1 i).f0)
   obtain ⟨en, hen⟩ : ∃ e, e = nameE (zat l1 i).f0 := ⟨_, rfl⟩
   have HO : zaa (okName l0_0 l1 i = ((en == 0) && (i == 0 || Op.bytesLess (zat l1 ((i : Int) - 1)).f0.toList (zat l1 i).f0.toList) && (decide (1 ≤ (zat l1 i).f1) && (decide ((zat l1 i).f1 < (l0_0.length : Int)) && ((zae l0_0 (zat l1 i).f1).f0 != 0))))) := ⟨by rw [hen]; rfl⟩
   rw [← hen] at HN
   clear hen
   by_cases c1 : en = 0
   ·have hn1 : (en != 0) = false := by simpa using c1
    have HC1 := zaa.mk c1
    clear c1
    by_cases c2 : i = 0
    ·have hn2 : decide ((0 : Int) < (i : Int)) = false := by simp [c2]
     have hn2b : decide (0 < i) = false := by simp [c2]
     have HC2 : zaa ((i == 0 || Op.bytesLess (zat l1 ((i : Int) - 1)).f0.toList (zat l1 i).f0.toList) = true) := ⟨by simp [c2]⟩
     clear c2
     by_cases c3 : 1 ≤ (zat l1 i).f1
     ·have hn3 : decide ((zat l1 i).f1 < 1) = false := by simpa using c3
      by_cases c4 : (zat l1 i).f1 < (l0_0.length : Int)
      ·have hn4 : decide ((l0_0.length : Int) ≤ (zat l1 i).f1) = false := by simpa using c4
       obtain ⟨at_, B1, d1, B2, d2, rfl, hy0, hy1, hy2, hy3, hy4, hy5, _, _, _, _⟩ := zbn HR.out (zat l1 i).f1 (by omega) c4
       replace hy0 := (HB0.out.cell (World.block_lt_of_cell? w _ hy0)).trans hy0
       have hy02 := (World.cell?_alloc_lt wr (.cells #[.string (zat l1 i).f0, .int .i64 (zat l1 i).f1] 66) _ (World.block_lt_of_cell? _ _ hy0)).trans hy0
       clear hy1 hy2 hy3 hy4 hy5
       have p4 := eq_true (show 0 ≤ (zat l1 i).f1 by omega)
       have q4 := eq_true c4
       by_cases c5 : (zae l0_0 (zat l1 i).f1).f0 = 0
       ·have hn5 : ((zae l0_0 (zat l1 i).f1).f0 == 0) = true := by simpa using c5
        have HF := zaa.mk (zbR hlt (show okName l0_0 l1 i = false by rw [HO.out]; simp [c5]))
        clear c3 c4 c5
        go_wp2_with fail
        go_quiet ((go_at_call 14; (with_reducible refine (zaE.calls 1 (zat l1 i).f0 en _ HN.out).mono ?_); rintro e w' ⟨rfl, ⟨nd, rfl⟩⟩; (try first | exact ⟨rfl, _, World.drewN_drewN _ _ _⟩ | exact ⟨rfl, _, Eq.trans (World.drewN_drewN _ _ _) (congrArg (World.drewN _) (Nat.add_assoc _ _ _))⟩)))
        go_wp2
        go_ret
        exact ⟨by rw [← HH.out, HF.out]; rfl, by repeat (first | exact HB0.out | apply zac | apply zab | apply zad)⟩
       ·have hn5 : ((zae l0_0 (zat l1 i).f1).f0 == 0) = false := by simpa using c5
        have HF := zaa.mk (show okNames l0_0 l1 (i + 1) = true by rw [okNames_succ, HE.out, HO.out]; simp [HC1.out, HC2.out, c3, c4, c5])
        clear c3 c4 c5
        go_wp2_with fail
        go_quiet ((go_at_call 14; (with_reducible refine (zaE.calls 1 (zat l1 i).f0 en _ HN.out).mono ?_); rintro e w' ⟨rfl, ⟨nd, rfl⟩⟩; (try first | exact ⟨rfl, _, World.drewN_drewN _ _ _⟩ | exact ⟨rfl, _, Eq.trans (World.drewN_drewN _ _ _) (congrArg (World.drewN _) (Nat.add_assoc _ _ _))⟩)))
        go_wp2
        go_roundw
        case rel => exact ⟨i + 1, by omega, by go_num, HF, ⟨by repeat (first | exact HB.out | apply zac | apply zab | apply zad)⟩⟩
        case measure => simp [intOf]; omega
      ·have hn4 : decide ((l0_0.length : Int) ≤ (zat l1 i).f1) = true := by simpa using c4
       have HF := zaa.mk (zbR hlt (show okName l0_0 l1 i = false by rw [HO.out]; simp [c4]))
       clear c3 c4
       go_wp2_with fail
       go_quiet ((go_at_call 14; (with_reducible refine (zaE.calls 1 (zat l1 i).f0 en _ HN.out).mono ?_); rintro e w' ⟨rfl, ⟨nd, rfl⟩⟩; (try first | exact ⟨rfl, _, World.drewN_drewN _ _ _⟩ | exact ⟨rfl, _, Eq.trans (World.drewN_drewN _ _ _) (congrArg (World.drewN _) (Nat.add_assoc _ _ _))⟩)))
       go_wp2
       go_ret
       exact ⟨by rw [← HH.out, HF.out]; rfl, by repeat (first | exact HB0.out | apply zac | apply zab | apply zad)⟩
     ·have hn3 : decide ((zat l1 i).f1 < 1) = true := by simpa using c3
      have HF := zaa.mk (zbR hlt (show okName l0_0 l1 i = false by rw [HO.out]; simp [c3]))
      clear c3
      go_wp2_with fail
      go_quiet ((go_at_call 14; (with_reducible refine (zaE.calls 1 (zat l1 i).f0 en _ HN.out).mono ?_); rintro e w' ⟨rfl, ⟨nd, rfl⟩⟩; (try first | exact ⟨rfl, _, World.drewN_drewN _ _ _⟩ | exact ⟨rfl, _, Eq.trans (World.drewN_drewN _ _ _) (congrArg (World.drewN _) (Nat.add_assoc _ _ _))⟩)))
      go_wp2
      go_ret
      exact ⟨by rw [← HH.out, HF.out]; rfl, by repeat (first | exact HB0.out | apply zac | apply zab | apply zad)⟩
    ·have hn2 : decide ((0 : Int) < (i : Int)) = true := by simp; omega
     have hn2b : decide (0 < i) = true := by simp; omega
     obtain ⟨ad2, e2, hz0, hz1⟩ := zce HR1.out ((i : Int) - 1) (by omega) (by omega)
     cases e2
     replace hz0 := (HB0.out.cell (World.block_lt_of_cell? w _ hz0)).trans hz0
     rw [show ((i : Int) - 1).toNat = i - 1 by omega] at hz0
     have hz02 := (World.cell?_alloc_lt wr (.cells #[.string (zat l1 i).f0, .int .i64 (zat l1 i).f1] 66) _ (World.block_lt_of_cell? _ _ hz0)).trans hz0
     have hp2 : 1 ≤ i := by omega
     clear hz1
     cases c6 : Op.bytesLess (zat l1 ((i : Int) - 1)).f0.toList (zat l1 i).f0.toList
     ·have HF := zaa.mk (zbR hlt (show okName l0_0 l1 i = false by rw [HO.out]; simp [c2, c6]))
      clear c2
      go_wp2_with fail
      go_quiet ((go_at_call 14; (with_reducible refine (zaE.calls 1 (zat l1 i).f0 en _ HN.out).mono ?_); rintro e w' ⟨rfl, ⟨nd, rfl⟩⟩; (try first | exact ⟨rfl, _, World.drewN_drewN _ _ _⟩ | exact ⟨rfl, _, Eq.trans (World.drewN_drewN _ _ _) (congrArg (World.drewN _) (Nat.add_assoc _ _ _))⟩)))
      go_wp2
      go_ret
      exact ⟨by rw [← HH.out, HF.out]; rfl, by repeat (first | exact HB0.out | apply zac | apply zab | apply zad)⟩
     ·have HC2 : zaa ((i == 0 || Op.bytesLess (zat l1 ((i : Int) - 1)).f0.toList (zat l1 i).f0.toList) = true) := ⟨by simp [c6]⟩
      clear c2
      by_cases c3 : 1 ≤ (zat l1 i).f1
      ·have hn3 : decide ((zat l1 i).f1 < 1) = false := by simpa using c3
       by_cases c4 : (zat l1 i).f1 < (l0_0.length : Int)
       ·have hn4 : decide ((l0_0.length : Int) ≤ (zat l1 i).f1) = false := by simpa using c4
        obtain ⟨at_, B1, d1, B2, d2, rfl, hy0, hy1, hy2, hy3, hy4, hy5, _, _, _, _⟩ := zbn HR.out (zat l1 i).f1 (by omega) c4
        replace hy0 := (HB0.out.cell (World.block_lt_of_cell? w _ hy0)).trans hy0
        have hy02 := (World.cell?_alloc_lt wr (.cells #[.string (zat l1 i).f0, .int .i64 (zat l1 i).f1] 66) _ (World.block_lt_of_cell? _ _ hy0)).trans hy0
        clear hy1 hy2 hy3 hy4 hy5
        have p4 := eq_true (show 0 ≤ (zat l1 i).f1 by omega)
        have q4 := eq_true c4
        by_cases c5 : (zae l0_0 (zat l1 i).f1).f0 = 0
        ·have hn5 : ((zae l0_0 (zat l1 i).f1).f0 == 0) = true := by simpa using c5
         have HF := zaa.mk (zbR hlt (show okName l0_0 l1 i = false by rw [HO.out]; simp [c5]))
         clear c3 c4 c5
         go_wp2_with fail
         go_quiet ((go_at_call 14; (with_reducible refine (zaE.calls 1 (zat l1 i).f0 en _ HN.out).mono ?_); rintro e w' ⟨rfl, ⟨nd, rfl⟩⟩; (try first | exact ⟨rfl, _, World.drewN_drewN _ _ _⟩ | exact ⟨rfl, _, Eq.trans (World.drewN_drewN _ _ _) (congrArg (World.drewN _) (Nat.add_assoc _ _ _))⟩)))
         go_wp2
         go_ret
         exact ⟨by rw [← HH.out, HF.out]; rfl, by repeat (first | exact HB0.out | apply zac | apply zab | apply zad)⟩
        ·have hn5 : ((zae l0_0 (zat l1 i).f1).f0 == 0) = false := by simpa using c5
         have HF := zaa.mk (show okNames l0_0 l1 (i + 1) = true by rw [okNames_succ, HE.out, HO.out]; simp [HC1.out, HC2.out, c3, c4, c5])
         clear c3 c4 c5
         go_wp2_with fail
         go_quiet ((go_at_call 14; (with_reducible refine (zaE.calls 1 (zat l1 i).f0 en _ HN.out).mono ?_); rintro e w' ⟨rfl, ⟨nd, rfl⟩⟩; (try first | exact ⟨rfl, _, World.drewN_drewN _ _ _⟩ | exact ⟨rfl, _, Eq.trans (World.drewN_drewN _ _ _) (congrArg (World.drewN _) (Nat.add_assoc _ _ _))⟩)))
         go_wp2
         go_roundw
         case rel => exact ⟨i + 1, by omega, by go_num, HF, ⟨by repeat (first | exact HB.out | apply zac | apply zab | apply zad)⟩⟩
         case measure => simp [intOf]; omega
       ·have hn4 : decide ((l0_0.length : Int) ≤ (zat l1 i).f1) = true := by simpa using c4
        have HF := zaa.mk (zbR hlt (show okName l0_0 l1 i = false by rw [HO.out]; simp [c4]))
        clear c3 c4
        go_wp2_with fail
        go_quiet ((go_at_call 14; (with_reducible refine (zaE.calls 1 (zat l1 i).f0 en _ HN.out).mono ?_); rintro e w' ⟨rfl, ⟨nd, rfl⟩⟩; (try first | exact ⟨rfl, _, World.drewN_drewN _ _ _⟩ | exact ⟨rfl, _, Eq.trans (World.drewN_drewN _ _ _) (congrArg (World.drewN _) (Nat.add_assoc _ _ _))⟩)))
        go_wp2
        go_ret
        exact ⟨by rw [← HH.out, HF.out]; rfl, by repeat (first | exact HB0.out | apply zac | apply zab | apply zad)⟩
      ·have hn3 : decide ((zat l1 i).f1 < 1) = true := by simpa using c3
       have HF := zaa.mk (zbR hlt (show okName l0_0 l1 i = false by rw [HO.out]; simp [c3]))
       clear c3
       go_wp2_with fail
       go_quiet ((go_at_call 14; (with_reducible refine (zaE.calls 1 (zat l1 i).f0 en _ HN.out).mono ?_); rintro e w' ⟨rfl, ⟨nd, rfl⟩⟩; (try first | exact ⟨rfl, _, World.drewN_drewN _ _ _⟩ | exact ⟨rfl, _, Eq.trans (World.drewN_drewN _ _ _) (congrArg (World.drewN _) (Nat.add_assoc _ _ _))⟩)))
       go_wp2
       go_ret
       exact ⟨by rw [← HH.out, HF.out]; rfl, by repeat (first | exact HB0.out | apply zac | apply zab | apply zad)⟩
   ·have hn1 : (en != 0) = true := by simpa using c1
    have HF := zaa.mk (zbR hlt (show okName l0_0 l1 i = false by rw [HO.out]; simp [c1]))
    clear c1
    go_wp2_with fail
    go_quiet ((go_at_call 14; (with_reducible refine (zaE.calls 1 (zat l1 i).f0 en _ HN.out).mono ?_); rintro e w' ⟨rfl, ⟨nd, rfl⟩⟩; (try first | exact ⟨rfl, _, World.drewN_drewN _ _ _⟩ | exact ⟨rfl, _, Eq.trans (World.drewN_drewN _ _ _) (congrArg (World.drewN _) (Nat.add_assoc _ _ _))⟩)))
    go_wp2
    go_ret
    exact ⟨by rw [← HH.out, HF.out]; rfl, by repeat (first | exact HB0.out | apply zac | apply zab | apply zad)⟩
  ·have hle := okNames_succ l0_0 l1 0
   have HH1 := HH.out
   obtain rfl : i = l1.length := by omega
   rw [HE.out, Bool.true_and] at HH1
   have HH2 := zaa.mk HH1
   clear HH1 hle
   go_wp2
   go_ret
   exact ⟨by rw [← HH2.out]; rfl, by repeat (first | exact HB0.out | apply zac | apply zab | apply zad)⟩
def zaL.l0 : Nat → ByteArray → Int → Option (Bool)
 | 0, _, _ => none
 | k + 1, x0, x3 => if x3 < (x0.size : Int) then (if 0 ≤ x3 then (if (bt x0 x3) = 0 then (some true) else (zaL.l0 k x0 (wrap64 (x3 + 1)))) else (none)) else (some false)
def zaL.f (k : Nat) (a0 : ByteArray) : Option (Bool) := zaL.l0 k a0 0
set_option maxHeartbeats 8000000 in
set_option maxRecDepth 100000 in
theorem zaL.calls (k : Nat) (a0 : ByteArray) (r : Bool) (w : World) (h : zaL.f k a0 = some r) :
  Calls Try.prog 38 #[.string a0] w fun e w' => e = .returned (.bool r) ∧ zaK w w' := by
 have H : (zaL.l0 k a0 0) = some r := h
 clear h
 have H' := zaa.mk H
 clear H
 go_enter Try.func38, Try.ntmps38
 go_wp2
 go_loopg [3] k (fun kq v3 w' => ∃ (x3_1 : Int), v3 = .int .i64 x3_1 ∧ zaa (zaL.l0 kq a0 x3_1 = some r) ∧ zaa (kq ≤ k) ∧ zaK w w')
 case atStart => exact ⟨(0), (by first | rfl | (simp; done) | (simp [*]; done)), H', ⟨Nat.le_refl _⟩, by repeat (first | exact zaK.refl _ | apply zaK.step)⟩
 case round =>
  clear H'
  obtain ⟨x3_1, rfl, HA, HK1, ⟨m1, rfl⟩⟩ := hrel
  cases gk with
  | zero => exact absurd HA.out (by simp [zaL.l0])
  | succ k1 =>
   have H := HA.out
   clear HA
   simp only [zaL.l0] at H
   by_cases c2 : x3_1 < (a0.size : Int)
   ·rw [if_pos c2] at H
    have c2b0 : decide (x3_1 < (a0.size : Int)) = true := decide_eq_true c2
    clear c2
    by_cases c3 : 0 ≤ x3_1
    ·rw [if_pos c3] at H
     have c3b0 : decide (0 ≤ x3_1) = true := decide_eq_true c3
     clear c3
     by_cases c5 : (bt a0 x3_1) = 0
     ·rw [if_pos c5] at H
      have c5b0 : ((bt a0 x3_1) == 0) = true := beq_iff_eq.mpr c5
      have c5b1 : ((bt a0 x3_1) != 0) = false := bne_eq_false_iff_eq.mpr c5
      clear c5
      obtain rfl := Option.some.inj H
      have p4 : 0 ≤ (x3_1 : Int) := of_decide_eq_true (by first | (with_reducible assumption) | assumption)
      have q4 : x3_1 < (a0.size : Int) := of_decide_eq_true (by first | (with_reducible assumption) | assumption)
      have hx4 := bt_at a0 x3_1
      replace p4 := eq_true p4
      replace q4 := eq_true q4
      go_wp2
      go_ret
      exact ⟨by first | rfl | (simp; done) | (simp [*]; done), by repeat (first | exact zaK.refl _ | apply zaK.step)⟩
     ·rw [if_neg c5] at H
      have c5b0 : ((bt a0 x3_1) == 0) = false := beq_eq_false_iff_ne.mpr c5
      have c5b1 : ((bt a0 x3_1) != 0) = true := bne_iff_ne.mpr c5
      have H' := zaa.mk H
      clear H
      have p4 : 0 ≤ (x3_1 : Int) := of_decide_eq_true (by first | (with_reducible assumption) | assumption)
      have q4 : x3_1 < (a0.size : Int) := of_decide_eq_true (by first | (with_reducible assumption) | assumption)
      have hx4 := bt_at a0 x3_1
      replace p4 := eq_true p4
      replace q4 := eq_true q4
      go_wp2
      go_roundg k1
      case measure => have := HK1.out; omega
      case rel => exact ⟨(wrap64 (x3_1 + 1)), (by first | rfl | (simp; done) | (simp [*]; done)), H', ⟨by have := HK1.out; omega⟩, by repeat (first | exact zaK.refl _ | apply zaK.step)⟩
    ·rw [if_neg c3] at H
     exact absurd H (by simp)
   ·rw [if_neg c2] at H
    have c2b0 : decide (x3_1 < (a0.size : Int)) = false := decide_eq_false c2
    clear c2
    obtain rfl := Option.some.inj H
    go_wp2
    go_ret
    exact ⟨by first | rfl | (simp; done) | (simp [*]; done), by repeat (first | exact zaK.refl _ | apply zaK.step)⟩
mutual
def zav.j0 : Nat → ByteArray → Bool → Option (Int)
 | 0, _, _ => none
 | k + 1, x0, x17 => if x17 = true then (some 28) else (zav.l0 k x0 0)
def zav.l0 : Nat → ByteArray → Int → Option (Int)
 | 0, _, _ => none
 | k + 1, x0, x3 => if x3 < (x0.size : Int) then (if 0 ≤ x3 then (if (bt x0 x3) = 47 then (some 28) else (zav.l0 k x0 (wrap64 (x3 + 1)))) else (none)) else (if (x0.size : Int) > 64 then (some 37) else (some 0))
end
def zav.f (k : Nat) (a0 : ByteArray) : Option (Int) := if a0.toList = ([] : List UInt8) then (zav.j0 k a0 true) else (if a0.toList = ([46] : List UInt8) then (zav.j0 k a0 true) else (if a0.toList = ([46, 46] : List UInt8) then (zav.j0 k a0 true) else ((zaL.f k a0).bind fun t172 => (zav.j0 k a0 t172))))
set_option maxHeartbeats 8000000 in
set_option maxRecDepth 100000 in
theorem zav.calls (k : Nat) (a0 : ByteArray) (r : Int) (w : World) (h : zav.f k a0 = some r) :
  Calls Try.prog 15 #[.string a0] w fun e w' => e = .returned (.int .i64 r) ∧ zaK w w' := by
 have H : (if a0.toList = ([] : List UInt8) then (zav.j0 k a0 true) else (if a0.toList = ([46] : List UInt8) then (zav.j0 k a0 true) else (if a0.toList = ([46, 46] : List UInt8) then (zav.j0 k a0 true) else ((zaL.f k a0).bind fun t172 => (zav.j0 k a0 t172))))) = some r := h
 clear h
 have HC2 := zaa.mk H
 clear H
 go_enter Try.func15, Try.ntmps15
 go_upto_region 1 with (fail)
 go_cut [17] (fun v17 wc => ∃ (kq : Nat) (x17_1 : Bool), v17 = .bool x17_1 ∧ zaa (zav.j0 kq a0 x17_1 = some r) ∧ zaa (kq ≤ k) ∧ zaK w wc)
 case first =>
  have H := HC2.out
  clear HC2
  by_cases c3 : a0.toList = ([] : List UInt8)
  ·rw [if_pos c3] at H
   have c3b0 : (a0.toList == ([] : List UInt8)) = true := beq_iff_eq.mpr c3
   have c3b1 : (a0.toList != ([] : List UInt8)) = false := bne_eq_false_iff_eq.mpr c3
   clear c3
   (first | rw [c3b0] | (simp only [zbq, zbv]; rw [c3b0]) | skip)
   have H' := zaa.mk H
   clear H
   go_wp2
   go_meet
   case rel => exact ⟨_, (true), (by first | rfl | (simp; done) | (simp [*]; done)), H', ⟨by first | omega | exact Nat.le_refl _⟩, by repeat (first | exact zaK.refl _ | apply zaK.step)⟩
  ·rw [if_neg c3] at H
   have c3b0 : (a0.toList == ([] : List UInt8)) = false := beq_eq_false_iff_ne.mpr c3
   have c3b1 : (a0.toList != ([] : List UInt8)) = true := bne_iff_ne.mpr c3
   (first | rw [c3b0] | (simp only [zbq, zbv]; rw [c3b0]) | skip)
   by_cases c4 : a0.toList = ([46] : List UInt8)
   ·rw [if_pos c4] at H
    have c4b0 : (a0.toList == ([46] : List UInt8)) = true := beq_iff_eq.mpr c4
    have c4b1 : (a0.toList != ([46] : List UInt8)) = false := bne_eq_false_iff_eq.mpr c4
    clear c4
    have H' := zaa.mk H
    clear H
    go_wp2
    go_meet
    case rel => exact ⟨_, (true), (by first | rfl | (simp; done) | (simp [*]; done)), H', ⟨by first | omega | exact Nat.le_refl _⟩, by repeat (first | exact zaK.refl _ | apply zaK.step)⟩
   ·rw [if_neg c4] at H
    have c4b0 : (a0.toList == ([46] : List UInt8)) = false := beq_eq_false_iff_ne.mpr c4
    have c4b1 : (a0.toList != ([46] : List UInt8)) = true := bne_iff_ne.mpr c4
    by_cases c5 : a0.toList = ([46, 46] : List UInt8)
    ·rw [if_pos c5] at H
     have c5b0 : (a0.toList == ([46, 46] : List UInt8)) = true := beq_iff_eq.mpr c5
     have c5b1 : (a0.toList != ([46, 46] : List UInt8)) = false := bne_eq_false_iff_eq.mpr c5
     clear c5
     have H' := zaa.mk H
     clear H
     go_wp2
     go_meet
     case rel => exact ⟨_, (true), (by first | rfl | (simp; done) | (simp [*]; done)), H', ⟨by first | omega | exact Nat.le_refl _⟩, by repeat (first | exact zaK.refl _ | apply zaK.step)⟩
    ·rw [if_neg c5] at H
     have c5b0 : (a0.toList == ([46, 46] : List UInt8)) = false := beq_eq_false_iff_ne.mpr c5
     have c5b1 : (a0.toList != ([46, 46] : List UInt8)) = true := bne_iff_ne.mpr c5
     replace H := Option.bind_eq_some_iff.mp H
     obtain ⟨t172, A60, H⟩ := H
     replace H : (zav.j0 k a0 t172) = some r := H
     have A6 := zaa.mk A60
     clear A60
     have H' := zaa.mk H
     clear H
     go_wp2_with (first | (go_at_call 38; (with_reducible refine (zaL.calls k a0 t172 _ A6.out).mono ?_); rintro e w' ⟨rfl, ⟨nd, rfl⟩⟩))
     go_meet
     case rel => exact ⟨_, (t172), (by first | rfl | (simp; done) | (simp [*]; done)), H', ⟨by first | omega | exact Nat.le_refl _⟩, by repeat (first | exact zaK.refl _ | apply zaK.step)⟩
 case rest =>
  clear HC2
  try clear c1
  try clear p2
  try clear c3
  try clear c3b0
  try clear c3b1
  try clear c4
  try clear c4b0
  try clear c4b1
  try clear c5
  try clear c5b0
  try clear c5b1
  obtain ⟨kq, x17_1, rfl, HA, HJ1, ⟨mc1, rfl⟩⟩ := hcut
  cases kq with
  | zero => exact absurd HA.out (by simp [zav.j0])
  | succ kj1 =>
   have H := HA.out
   clear HA
   simp only [zav.j0] at H
   by_cases c7 : x17_1 = true
   ·subst c7
    have H1 : (some 28) = some r := by rw [if_pos rfl] at H; exact H
    clear H
    have H := H1
    clear H1
    obtain rfl := Option.some.inj H
    go_wp2
    go_ret
    exact ⟨by first | rfl | (simp; done) | (simp [*]; done), by repeat (first | exact zaK.refl _ | apply zaK.step)⟩
   ·replace c7 := Bool.eq_false_iff.mpr c7
    subst c7
    have H1 : (zav.l0 kj1 a0 0) = some r := by rw [if_neg (show ¬ (false = true) by decide)] at H; exact H
    clear H
    have H := H1
    clear H1
    have H' := zaa.mk H
    clear H
    go_wp2
    go_loopg [3] kj1 (fun kq v3 w' => ∃ (x3_2 : Int), v3 = .int .i64 x3_2 ∧ zaa (zav.l0 kq a0 x3_2 = some r) ∧ zaa (kq ≤ kj1) ∧ zaK w w')
    case atStart => exact ⟨(0), (by first | rfl | (simp; done) | (simp [*]; done)), H', ⟨Nat.le_refl _⟩, by repeat (first | exact zaK.refl _ | apply zaK.step)⟩
    case round =>
     clear H'
     try clear c1
     try clear p2
     try clear c3
     try clear c3b0
     try clear c3b1
     try clear c4
     try clear c4b0
     try clear c4b1
     try clear c5
     try clear c5b0
     try clear c5b1
     try clear c7
     try clear p2
     obtain ⟨x3_2, rfl, HA, HK2, ⟨m2, rfl⟩⟩ := hrel
     cases gk with
     | zero => exact absurd HA.out (by simp [zav.l0])
     | succ k2 =>
      have H := HA.out
      clear HA
      simp only [zav.l0] at H
      by_cases c8 : x3_2 < (a0.size : Int)
      ·rw [if_pos c8] at H
       have c8b0 : decide (x3_2 < (a0.size : Int)) = true := decide_eq_true c8
       clear c8
       by_cases c9 : 0 ≤ x3_2
       ·rw [if_pos c9] at H
        have c9b0 : decide (0 ≤ x3_2) = true := decide_eq_true c9
        clear c9
        by_cases c11 : (bt a0 x3_2) = 47
        ·rw [if_pos c11] at H
         have c11b0 : ((bt a0 x3_2) == 47) = true := beq_iff_eq.mpr c11
         have c11b1 : ((bt a0 x3_2) != 47) = false := bne_eq_false_iff_eq.mpr c11
         clear c11
         obtain rfl := Option.some.inj H
         have p10 : 0 ≤ (x3_2 : Int) := of_decide_eq_true (by first | (with_reducible assumption) | assumption)
         have q10 : x3_2 < (a0.size : Int) := of_decide_eq_true (by first | (with_reducible assumption) | assumption)
         have hx10 := bt_at a0 x3_2
         replace p10 := eq_true p10
         replace q10 := eq_true q10
         go_wp2
         go_ret
         exact ⟨by first | rfl | (simp; done) | (simp [*]; done), by repeat (first | exact zaK.refl _ | apply zaK.step)⟩
        ·rw [if_neg c11] at H
         have c11b0 : ((bt a0 x3_2) == 47) = false := beq_eq_false_iff_ne.mpr c11
         have c11b1 : ((bt a0 x3_2) != 47) = true := bne_iff_ne.mpr c11
         have H' := zaa.mk H
         clear H
         have p10 : 0 ≤ (x3_2 : Int) := of_decide_eq_true (by first | (with_reducible assumption) | assumption)
         have q10 : x3_2 < (a0.size : Int) := of_decide_eq_true (by first | (with_reducible assumption) | assumption)
         have hx10 := bt_at a0 x3_2
         replace p10 := eq_true p10
         replace q10 := eq_true q10
         go_wp2
         go_roundg k2
         case measure => have := HJ1.out; have := HK2.out; omega
         case rel => exact ⟨(wrap64 (x3_2 + 1)), (by first | rfl | (simp; done) | (simp [*]; done)), H', ⟨by have := HJ1.out; have := HK2.out; omega⟩, by repeat (first | exact zaK.refl _ | apply zaK.step)⟩
       ·rw [if_neg c9] at H
        exact absurd H (by simp)
      ·rw [if_neg c8] at H
       have c8b0 : decide (x3_2 < (a0.size : Int)) = false := decide_eq_false c8
       clear c8
       by_cases c12 : (a0.size : Int) > 64
       ·rw [if_pos c12] at H
        have c12b0 : decide (64 < (a0.size : Int)) = true := decide_eq_true c12
        have c12b1 : decide (64 < a0.size) = true := decide_eq_true (by omega)
        clear c12
        obtain rfl := Option.some.inj H
        go_wp2
        go_ret
        exact ⟨by first | rfl | (simp; done) | (simp [*]; done), by repeat (first | exact zaK.refl _ | apply zaK.step)⟩
       ·rw [if_neg c12] at H
        have c12b0 : decide (64 < (a0.size : Int)) = false := decide_eq_false c12
        have c12b1 : decide (64 < a0.size) = false := decide_eq_false (by omega)
        clear c12
        obtain rfl := Option.some.inj H
        go_wp2
        go_ret
        exact ⟨by first | rfl | (simp; done) | (simp [*]; done), by repeat (first | exact zaK.refl _ | apply zaK.step)⟩
def zbf.f (a0 : Int) : Option (Bool) := if a0 ≥ 0 then (some (decide (a0 ≤ 1125899906842624))) else (some false)
set_option maxHeartbeats 8000000 in
set_option maxRecDepth 100000 in
theorem zbf.calls (a0 : Int) (r : Bool) (w : World) (h : zbf.f a0 = some r) :
  Calls Try.prog 20 #[.int .i64 a0] w fun e w' => e = .returned (.bool r) ∧ zaK w w' := by
 have H : (if a0 ≥ 0 then (some (decide (a0 ≤ 1125899906842624))) else (some false)) = some r := h
 clear h
 by_cases c2 : a0 ≥ 0
 ·rw [if_pos c2] at H
  have c2b0 : decide (0 ≤ a0) = true := decide_eq_true c2
  clear c2
  obtain rfl := Option.some.inj H
  go_enter Try.func20, Try.ntmps20
  go_wp2
  go_ret
  exact ⟨by first | rfl | (simp; done) | (simp [*]; done), by repeat (first | exact zaK.refl _ | apply zaK.step)⟩
 ·rw [if_neg c2] at H
  have c2b0 : decide (0 ≤ a0) = false := decide_eq_false c2
  clear c2
  obtain rfl := Option.some.inj H
  go_enter Try.func20, Try.ntmps20
  go_wp2
  go_ret
  exact ⟨by first | rfl | (simp; done) | (simp [*]; done), by repeat (first | exact zaK.refl _ | apply zaK.step)⟩
theorem idx_ge (c : UInt8) : ∀ l : List UInt8, 0 ≤ Lib.indexByte l c ↔ c ∈ l
 | [] => by simp [Lib.indexByte]
 | b :: l => by
  have ih := idx_ge c l
  unfold Lib.indexByte
  by_cases h : b = c
  ·subst h; simp
  ·rw [if_neg (by simpa using h)]
   have hn : c ∈ b :: l ↔ c ∈ l := by simp [Ne.symm h]
   rw [hn, ← ih]
   by_cases h1 : Lib.indexByte l c = -1
   ·rw [if_pos (by simpa using h1), h1]
   ·rw [if_neg (by simpa using h1)]
    have := Lib.indexByte_ge l c
    omega
def bytesOf (s : ByteArray) : List UInt8 := s.data.toList
theorem bytesOf_len (s : ByteArray) : (bytesOf s).length = s.size := Array.length_toList
theorem bt_get (s : ByteArray) (i : Nat) (h : i < s.size) : bt s (i : Int) = ((bytesOf s)[i]'(by rw [bytesOf_len]; exact h)).toNat := by
 unfold bt
 rw [dif_pos (show ((i : Int)).toNat < s.size by omega)]
 rfl
theorem drop_has (l : List UInt8) (c : UInt8) (i : Nat) (h : i < l.length) : c ∈ l.drop i ↔ l[i] = c ∨ c ∈ l.drop (i + 1) := by
 rw [List.drop_eq_getElem_cons h, List.mem_cons]
 exact ⟨fun h => h.imp Eq.symm id, fun h => h.imp Eq.symm id⟩
theorem zero_l0 (s : ByteArray) (hm : s.size < 9223372036854775807) : ∀ (d i : Nat), i + d = s.size → EvB (fun k => zaL.l0 k s (i : Int)) ((0 : UInt8) ∈ (bytesOf s).drop i)
 | 0, i, h => EvB.step (EvB.no (by rw [List.drop_eq_nil_of_le (by rw [bytesOf_len]; omega)]; simp)) (fun k => by rw [zaL.l0, if_neg (by omega)])
 | d + 1, i, h => by
  have hi : i < (bytesOf s).length := by rw [bytesOf_len]; omega
  rw [drop_has _ _ _ hi]
  by_cases e : (bytesOf s)[i] = 0
  ·refine EvB.step (EvB.yes (.inl e)) (fun k => ?_)
   rw [zaL.l0, if_pos (by omega), if_pos (by omega), if_pos (by rw [bt_get s i (by omega), e]; rfl)]
  ·refine EvB.step ((zero_l0 s hm d (i + 1) (by omega)).iff ⟨.inr, fun h => h.resolve_left e⟩) (fun k => ?_)
   rw [zaL.l0, if_pos (by omega), if_pos (by omega), if_neg, up64 (by omega)]
   rw [bt_get s i (by omega)]
   intro h0
   exact e (UInt8.toNat_inj.1 (Int.ofNat.inj h0))
theorem zero_ev (s : ByteArray) (hm : s.size < 9223372036854775807) : EvB (fun k => zaL.f k s) ((0 : UInt8) ∈ bytesOf s) := zero_l0 s hm s.size 0 (by omega)
def zbY (s : ByteArray) : Int := if s.toList = ([] : List UInt8) ∨ s.toList = ([46] : List UInt8) ∨ s.toList = ([46, 46] : List UInt8) ∨ (0 : UInt8) ∈ bytesOf s ∨ (47 : UInt8) ∈ bytesOf s then 28 else if (s.size : Int) > 64 then 37 else 0
theorem zcw {s : ByteArray} (h : s.toList = ([] : List UInt8) ∨ s.toList = ([46] : List UInt8) ∨ s.toList = ([46, 46] : List UInt8) ∨ (0 : UInt8) ∈ bytesOf s ∨ (47 : UInt8) ∈ bytesOf s) : zbY s = 28 := if_pos h
theorem tree_name (k : Nat) (s : ByteArray) : zaE.f (k + 1) s = some (zbY s) := by
 have h0 := idx_ge 0 (bytesOf s)
 have h47 := idx_ge 47 (bytesOf s)
 unfold zaE.f
 by_cases c1 : s.toList = ([] : List UInt8)
 ·rw [if_pos c1, zcw (.inl c1), zaE.j0, if_pos rfl]
 rw [if_neg c1]
 by_cases c2 : s.toList = ([46] : List UInt8)
 ·rw [if_pos c2, zcw (.inr (.inl c2)), zaE.j0, if_pos rfl]
 rw [if_neg c2]
 by_cases c3 : s.toList = ([46, 46] : List UInt8)
 ·rw [if_pos c3, zcw (.inr (.inr (.inl c3))), zaE.j0, if_pos rfl]
 rw [if_neg c3]
 simp only [strings_IndexByte.f, Option.bind_some]
 change (if 0 ≤ Lib.indexByte (bytesOf s) 0 then _ else zaE.j0 (k + 1) s (decide (0 ≤ Lib.indexByte (bytesOf s) 47))) = _
 by_cases c4 : (0 : UInt8) ∈ bytesOf s
 ·rw [if_pos (h0.2 c4), zcw (.inr (.inr (.inr (.inl c4)))), zaE.j0, if_pos rfl]
 rw [if_neg (fun h => c4 (h0.1 h))]
 by_cases c5 : (47 : UInt8) ∈ bytesOf s
 ·rw [zcw (.inr (.inr (.inr (.inr c5)))), zaE.j0, if_pos (decide_eq_true (h47.2 c5))]
 rw [zaE.j0, if_neg (by rw [decide_eq_true_eq]; exact fun h => c5 (h47.1 h))]
 have hno : ¬ (s.toList = ([] : List UInt8) ∨ s.toList = ([46] : List UInt8) ∨ s.toList = ([46, 46] : List UInt8) ∨ (0 : UInt8) ∈ bytesOf s ∨ (47 : UInt8) ∈ bytesOf s) := fun h => by
  rcases h with h | h | h | h | h
  ·exact c1 h
  ·exact c2 h
  ·exact c3 h
  ·exact c4 h
  ·exact c5 h
 unfold zbY
 rw [if_neg hno]
 by_cases c6 : (s.size : Int) > 64
 ·rw [if_pos c6, if_pos c6]
 ·rw [if_neg c6, if_neg c6]
theorem tree_name_ev (s : ByteArray) : Ev (fun k => zaE.f k s) (zbY s) := ⟨1, fun k hk => by obtain ⟨m, rfl⟩ : ∃ m, k = m + 1 := ⟨k - 1, by omega⟩; exact tree_name m s⟩
theorem nameE_P (s : ByteArray) : nameE s = zbY s := by
 have h1 := nameE_f s
 rw [tree_name 0 s] at h1
 exact (Option.some.inj h1).symm
theorem name_l0 (s : ByteArray) (hm : s.size < 9223372036854775807) : ∀ (d i : Nat), i + d = s.size → Ev (fun k => zav.l0 k s (i : Int)) (if (47 : UInt8) ∈ (bytesOf s).drop i then 28 else if (s.size : Int) > 64 then 37 else 0)
 | 0, i, h => by
  rw [if_neg (by rw [List.drop_eq_nil_of_le (by rw [bytesOf_len]; omega)]; simp)]
  refine Ev.step (f := fun _ => some _) (fun k => ?_) (Ev.now _)
  rw [zav.l0, if_neg (by omega)]
  split <;> rfl
 | d + 1, i, h => by
  have hi : i < (bytesOf s).length := by rw [bytesOf_len]; omega
  by_cases e : (bytesOf s)[i] = 47
  ·rw [if_pos ((drop_has _ _ _ hi).2 (.inl e))]
   refine Ev.step (f := fun _ => some 28) (fun k => ?_) (Ev.now _)
   rw [zav.l0, if_pos (by omega), if_pos (by omega), if_pos (by rw [bt_get s i (by omega), e]; rfl)]
  ·have e2 : ((47 : UInt8) ∈ (bytesOf s).drop i) = ((47 : UInt8) ∈ (bytesOf s).drop (i + 1)) := propext ((drop_has _ _ _ hi).trans ⟨fun h => h.resolve_left e, .inr⟩)
   have ih := name_l0 s hm d (i + 1) (by omega)
   simp only [e2]
   refine Ev.step (fun k => ?_) ih
   rw [zav.l0, if_pos (by omega), if_pos (by omega), if_neg, up64 (by omega)]
   rw [bt_get s i (by omega)]
   intro h0
   exact e (UInt8.toNat_inj.1 (Int.ofNat.inj h0))
theorem page_name (s : ByteArray) (hm : s.size < 9223372036854775807) : Ev (fun k => zav.f k s) (zbY s) := by
 have j1 : Ev (fun k => zav.j0 k s true) 28 := Ev.step (f := fun _ => some 28) (fun k => by rw [zav.j0, if_pos rfl]) (Ev.now _)
 unfold zav.f
 by_cases c1 : s.toList = ([] : List UInt8)
 ·rw [zcw (.inl c1)]; exact Ev.congr (fun k => if_pos c1) j1
 by_cases c2 : s.toList = ([46] : List UInt8)
 ·rw [zcw (.inr (.inl c2))]; exact Ev.congr (fun k => by rw [if_neg c1, if_pos c2]) j1
 by_cases c3 : s.toList = ([46, 46] : List UInt8)
 ·rw [zcw (.inr (.inr (.inl c3)))]; exact Ev.congr (fun k => by rw [if_neg c1, if_neg c2, if_pos c3]) j1
 refine Ev.congr (fun k => by rw [if_neg c1, if_neg c2, if_neg c3]) ?_
 by_cases c4 : (0 : UInt8) ∈ bytesOf s
 ·rw [zcw (.inr (.inr (.inr (.inl c4))))]
  exact Ev.bind (f := fun k t => zav.j0 k s t) ((zero_ev s hm).out c4) j1
 ·refine Ev.bind (f := fun k t => zav.j0 k s t) ((zero_ev s hm).not c4) ?_
  have e : zbY s = if (47 : UInt8) ∈ (bytesOf s).drop 0 then 28 else if (s.size : Int) > 64 then 37 else 0 := by
   unfold zbY; simp only [c1, c2, c3, c4, false_or, List.drop_zero]
  rw [e]
  exact Ev.step (fun k => by rw [zav.j0, if_neg (by simp)]; rfl) (name_l0 s hm s.size 0 (by omega))
def zct (t : Int) : Prop := 0 ≤ t ∧ t ≤ 1125899906842624
theorem page_time (t : Int) : ∃ b, zbf.f t = some b ∧ (b = true ↔ zct t) := by
 unfold zbf.f zct
 by_cases h : t ≥ 0
 ·exact ⟨_, if_pos h, by rw [decide_eq_true_eq]; exact ⟨fun h1 => ⟨h, h1⟩, And.right⟩⟩
 ·exact ⟨_, if_neg h, by simp; omega⟩
theorem tree_time_ (t : Int) : ∃ b, za7.f t = some b ∧ (b = true ↔ zct t) := by
 unfold za7.f zct
 by_cases h : t ≥ 0
 ·exact ⟨_, if_pos h, by rw [decide_eq_true_eq]; exact ⟨fun h1 => ⟨h, h1⟩, And.right⟩⟩
 ·exact ⟨_, if_neg h, by simp; omega⟩
def okR (ns : List S66) (i : Nat) : Prop := zbY (zat ns (i : Int)).f0 = 0 ∧ (i = 0 ∨ Op.bytesLess (zat ns ((i : Int) - 1)).f0.toList (zat ns (i : Int)).f0.toList = true)
def zbN (l : List S45) (x : S66) : Prop := 1 ≤ x.f1 ∧ x.f1 < (l.length : Int) ∧ (zae l x.f1).f0 ≠ 0
theorem okName_iff (l : List S45) (ns : List S66) (i : Nat) : okName l ns i = true ↔ okR ns i ∧ zbN l (zat ns (i : Int)) := by
 unfold okName okR zbN
 rw [nameE_P]
 simp only [Bool.and_eq_true, Bool.or_eq_true, beq_iff_eq, decide_eq_true_eq, bne_iff_ne, ne_eq]
theorem names_mem {ns : List S66} {P : S66 → Prop} : (∀ x ∈ ns, P x) ↔ ∀ i, i < ns.length → P (zat ns (i : Int)) := by
 constructor
 ·intro h i hi; rw [zb1 ns i hi]; exact h _ (List.getElem_mem _)
 ·intro h x hx
  obtain ⟨i, hi, rfl⟩ := List.getElem_of_mem hx
  rw [← zb1 ns i hi]; exact h i hi
theorem okNames_iff (l : List S45) (ns : List S66) (n : Nat) : okNames l ns n = true ↔ ∀ i, i < n → okR ns i ∧ zbN l (zat ns (i : Int)) := by
 unfold okNames
 simp only [List.all_eq_true, List.mem_range, okName_iff]
def zb9 (x : S45) : Prop :=
 (x.f0 = 0 ∧ x = z45) ∨ (x.f0 = 1 ∧ zct x.f5 ∧ x.f1.length ≤ 16384 ∧ x.f2 = [] ∧ x.f3 = ⟨#[]⟩) ∨
 (x.f0 = 2 ∧ zct x.f5 ∧ x.f2.length ≤ 64 ∧ (∀ i, i < x.f2.length → okR x.f2 i) ∧ x.f1 = [] ∧ x.f3 = ⟨#[]⟩) ∨
 (x.f0 = 3 ∧ zct x.f5 ∧ x.f3 ≠ ⟨#[]⟩ ∧ x.f3.size ≤ 512 ∧ (0 : UInt8) ∉ bytesOf x.f3 ∧ x.f1 = [] ∧ x.f2 = [])
def zcg.f (a0 : ByteArray) : Option (Bool) := if a0.toList = ([] : List UInt8) then (some false) else (if (a0.size : Int) ≤ 512 then ((strings_IndexByte.f a0 0).bind fun t150 => (some (decide (t150 < 0)))) else (some false))
set_option maxHeartbeats 8000000 in
set_option maxRecDepth 100000 in
theorem zcg.calls (a0 : ByteArray) (r : Bool) (w : World) (h : zcg.f a0 = some r) :
  Calls Try.prog 73 #[.string a0] w fun e w' => e = .returned (.bool r) ∧ zaK w w' := by
 have H : (if a0.toList = ([] : List UInt8) then (some false) else (if (a0.size : Int) ≤ 512 then ((strings_IndexByte.f a0 0).bind fun t150 => (some (decide (t150 < 0)))) else (some false))) = some r := h
 clear h
 by_cases c2 : a0.toList = ([] : List UInt8)
 ·rw [if_pos c2] at H
  have c2b0 : (a0.toList == ([] : List UInt8)) = true := beq_iff_eq.mpr c2
  have c2b1 : (a0.toList != ([] : List UInt8)) = false := bne_eq_false_iff_eq.mpr c2
  clear c2
  obtain rfl := Option.some.inj H
  go_enter Try.func73, Try.ntmps73
  go_wp2
  go_ret
  exact ⟨by first | rfl | (simp; done) | (simp [*]; done), by repeat (first | exact zaK.refl _ | apply zaK.step)⟩
 ·rw [if_neg c2] at H
  have c2b0 : (a0.toList == ([] : List UInt8)) = false := beq_eq_false_iff_ne.mpr c2
  have c2b1 : (a0.toList != ([] : List UInt8)) = true := bne_iff_ne.mpr c2
  by_cases c3 : (a0.size : Int) ≤ 512
  ·rw [if_pos c3] at H
   have c3b0 : decide ((a0.size : Int) ≤ 512) = true := decide_eq_true c3
   have c3b1 : decide (a0.size ≤ 512) = true := decide_eq_true (by omega)
   clear c3
   replace H := Option.bind_eq_some_iff.mp H
   obtain ⟨t150, A40, H⟩ := H
   replace H : (some (decide (t150 < 0))) = some r := H
   have A4 := zaa.mk A40
   clear A40
   obtain rfl := Option.some.inj H
   go_enter Try.func73, Try.ntmps73
   go_wp2_with (first | (go_at_call 37; (with_reducible refine (strings_IndexByte.calls a0 0 t150 _ A4.out).mono ?_); rintro e w' ⟨rfl, ⟨nd, rfl⟩⟩))
   go_ret
   exact ⟨by first | rfl | (simp; done) | (simp [*]; done), by repeat (first | exact zaK.refl _ | apply zaK.step)⟩
  ·rw [if_neg c3] at H
   have c3b0 : decide ((a0.size : Int) ≤ 512) = false := decide_eq_false c3
   have c3b1 : decide (a0.size ≤ 512) = false := decide_eq_false (by omega)
   clear c3
   obtain rfl := Option.some.inj H
   go_enter Try.func73, Try.ntmps73
   go_wp2
   go_ret
   exact ⟨by first | rfl | (simp; done) | (simp [*]; done), by repeat (first | exact zaK.refl _ | apply zaK.step)⟩
def tree_node.f (l0_0 : List (S45)) (a1_0 : Int) (l1_1 : List Int) (l1_2 : List (S66)) (a1_3 : ByteArray) (a1_4 : Int) (a1_5 : Int) : Option (Bool) := if a1_0 = 0 then (if (wrap64 ((l1_1.length : Int) + (l1_2.length : Int))) = 0 then (if a1_3.toList = ([] : List UInt8) then (if a1_4 = 0 then (some (a1_5 == 0)) else (some false)) else (some false)) else (some false)) else (if a1_0 = 1 then (if (l1_1.length : Int) ≤ 16384 then (if (l1_2.length : Int) = 0 then (if a1_3.toList = ([] : List UInt8) then ((za7.f a1_5).bind fun t153 => (some t153)) else (some false)) else (some false)) else (some false)) else (if a1_0 = 2 then (if (l1_1.length : Int) = 0 then (if a1_3.toList = ([] : List UInt8) then ((za7.f a1_5).bind fun t154 => (if t154 = true then ((zcq.f l0_0 l1_2).bind fun t155 => (some t155)) else (some false))) else (some false)) else (some false)) else (if a1_0 = 3 then (if (wrap64 ((l1_1.length : Int) + (l1_2.length : Int))) = 0 then ((zcg.f a1_3).bind fun t156 => (if t156 = true then ((za7.f a1_5).bind fun t157 => (some t157)) else (some false))) else (some false)) else (some false))))
set_option maxHeartbeats 8000000 in
set_option maxRecDepth 100000 in
theorem tree_node.calls (A0_0 : Option Addr) (c0_0 : Nat) (l0_0 : List (S45)) (a1_0 : Int) (A1_1 : Option Addr) (c1_1 : Nat) (l1_1 : List Int) (A1_2 : Option Addr) (c1_2 : Nat) (l1_2 : List (S66)) (a1_3 : ByteArray) (a1_4 : Int) (a1_5 : Int) (r : Bool) (w : World) (hr0_0 : Kd.C k45 w A0_0 l0_0.length l0_0) (hc0_0 : l0_0.length ≤ c0_0) (hr1_1 : Kd.C (Kd.int .u8) w A1_1 l1_1.length l1_1) (hc1_1 : l1_1.length ≤ c1_1) (hr1_2 : Kd.C k66 w A1_2 l1_2.length l1_2) (hc1_2 : l1_2.length ≤ c1_2) (h : tree_node.f l0_0 a1_0 l1_1 l1_2 a1_3 a1_4 a1_5 = some r) :
  Calls Try.prog 59 #[.agg #[.slice A0_0 l0_0.length c0_0], .agg #[.int .i64 a1_0, .slice A1_1 l1_1.length c1_1, .slice A1_2 l1_2.length c1_2, .string a1_3, .int .i64 a1_4, .int .i64 a1_5]] w fun e w' => e = .returned (.bool r) ∧ Below w.heap.size w w' := by
 have hu24 := Try.underlying24
 have hu45 := Try.underlying45
 have HR0_0 := zaa.mk hr0_0
 have HC0_0 := zaa.mk hc0_0
 clear hr0_0 hc0_0
 have HR1_1 := zaa.mk hr1_1
 have HC1_1 := zaa.mk hc1_1
 clear hr1_1 hc1_1
 have HR1_2 := zaa.mk hr1_2
 have HC1_2 := zaa.mk hc1_2
 clear hr1_2 hc1_2
 have HB := zaa.mk (Below.refl w.heap.size w)
 have H : (if a1_0 = 0 then (if (wrap64 ((l1_1.length : Int) + (l1_2.length : Int))) = 0 then (if a1_3.toList = ([] : List UInt8) then (if a1_4 = 0 then (some (a1_5 == 0)) else (some false)) else (some false)) else (some false)) else (if a1_0 = 1 then (if (l1_1.length : Int) ≤ 16384 then (if (l1_2.length : Int) = 0 then (if a1_3.toList = ([] : List UInt8) then ((za7.f a1_5).bind fun t153 => (some t153)) else (some false)) else (some false)) else (some false)) else (if a1_0 = 2 then (if (l1_1.length : Int) = 0 then (if a1_3.toList = ([] : List UInt8) then ((za7.f a1_5).bind fun t154 => (if t154 = true then ((zcq.f l0_0 l1_2).bind fun t155 => (some t155)) else (some false))) else (some false)) else (some false)) else (if a1_0 = 3 then (if (wrap64 ((l1_1.length : Int) + (l1_2.length : Int))) = 0 then ((zcg.f a1_3).bind fun t156 => (if t156 = true then ((za7.f a1_5).bind fun t157 => (some t157)) else (some false))) else (some false)) else (some false))))) = some r := h
 clear h
 by_cases c3 : a1_0 = 0
 focus
  rw [if_pos c3] at H
  have c3b0 : (a1_0 == 0) = true := beq_iff_eq.mpr c3
  have c3b1 : (a1_0 != 0) = false := bne_eq_false_iff_eq.mpr c3
  clear c3
  by_cases c4 : (wrap64 ((l1_1.length : Int) + (l1_2.length : Int))) = 0
  focus
   rw [if_pos c4] at H
   have c4b0 : ((wrap64 ((l1_1.length : Int) + (l1_2.length : Int))) == 0) = true := beq_iff_eq.mpr c4
   have c4b1 : ((wrap64 ((l1_1.length : Int) + (l1_2.length : Int))) != 0) = false := bne_eq_false_iff_eq.mpr c4
   clear c4
   by_cases c5 : a1_3.toList = ([] : List UInt8)
   focus
    rw [if_pos c5] at H
    have c5b0 : (a1_3.toList == ([] : List UInt8)) = true := beq_iff_eq.mpr c5
    have c5b1 : (a1_3.toList != ([] : List UInt8)) = false := bne_eq_false_iff_eq.mpr c5
    clear c5
    by_cases c6 : a1_4 = 0
    focus
     rw [if_pos c6] at H
     have c6b0 : (a1_4 == 0) = true := beq_iff_eq.mpr c6
     have c6b1 : (a1_4 != 0) = false := bne_eq_false_iff_eq.mpr c6
     clear c6
     obtain rfl := Option.some.inj H
    rotate_left 1
    focus
     rw [if_neg c6] at H
     have c6b0 : (a1_4 == 0) = false := beq_eq_false_iff_ne.mpr c6
     have c6b1 : (a1_4 != 0) = true := bne_iff_ne.mpr c6
     obtain rfl := Option.some.inj H
   rotate_left 2
   focus
    rw [if_neg c5] at H
    have c5b0 : (a1_3.toList == ([] : List UInt8)) = false := beq_eq_false_iff_ne.mpr c5
    have c5b1 : (a1_3.toList != ([] : List UInt8)) = true := bne_iff_ne.mpr c5
    obtain rfl := Option.some.inj H
  rotate_left 3
  focus
   rw [if_neg c4] at H
   have c4b0 : ((wrap64 ((l1_1.length : Int) + (l1_2.length : Int))) == 0) = false := beq_eq_false_iff_ne.mpr c4
   have c4b1 : ((wrap64 ((l1_1.length : Int) + (l1_2.length : Int))) != 0) = true := bne_iff_ne.mpr c4
   obtain rfl := Option.some.inj H
 rotate_left 4
 focus
  rw [if_neg c3] at H
  have c3b0 : (a1_0 == 0) = false := beq_eq_false_iff_ne.mpr c3
  have c3b1 : (a1_0 != 0) = true := bne_iff_ne.mpr c3
  by_cases c23 : a1_0 = 1
  focus
   rw [if_pos c23] at H
   have c23b0 : (a1_0 == 1) = true := beq_iff_eq.mpr c23
   have c23b1 : (a1_0 != 1) = false := bne_eq_false_iff_eq.mpr c23
   clear c23
   by_cases c24 : (l1_1.length : Int) ≤ 16384
   focus
    rw [if_pos c24] at H
    have c24b0 : decide ((l1_1.length : Int) ≤ 16384) = true := decide_eq_true c24
    have c24b1 : decide (l1_1.length ≤ 16384) = true := decide_eq_true (by omega)
    clear c24
    by_cases c25 : (l1_2.length : Int) = 0
    focus
     rw [if_pos c25] at H
     have c25b0 : ((l1_2.length : Int) == 0) = true := beq_iff_eq.mpr c25
     have c25b1 : ((l1_2.length : Int) != 0) = false := bne_eq_false_iff_eq.mpr c25
     clear c25
     by_cases c26 : a1_3.toList = ([] : List UInt8)
     focus
      rw [if_pos c26] at H
      have c26b0 : (a1_3.toList == ([] : List UInt8)) = true := beq_iff_eq.mpr c26
      have c26b1 : (a1_3.toList != ([] : List UInt8)) = false := bne_eq_false_iff_eq.mpr c26
      clear c26
      replace H := Option.bind_eq_some_iff.mp H
      obtain ⟨t153, A270, H⟩ := H
      replace H : (some t153) = some r := H
      have A27 := zaa.mk A270
      clear A270
      obtain rfl := Option.some.inj H
     rotate_left 1
     focus
      rw [if_neg c26] at H
      have c26b0 : (a1_3.toList == ([] : List UInt8)) = false := beq_eq_false_iff_ne.mpr c26
      have c26b1 : (a1_3.toList != ([] : List UInt8)) = true := bne_iff_ne.mpr c26
      obtain rfl := Option.some.inj H
    rotate_left 2
    focus
     rw [if_neg c25] at H
     have c25b0 : ((l1_2.length : Int) == 0) = false := beq_eq_false_iff_ne.mpr c25
     have c25b1 : ((l1_2.length : Int) != 0) = true := bne_iff_ne.mpr c25
     have c25b2 : ¬ (l1_2 = []) := fun h_ => c25 (by rw [h_]; rfl)
     obtain rfl := Option.some.inj H
   rotate_left 3
   focus
    rw [if_neg c24] at H
    have c24b0 : decide ((l1_1.length : Int) ≤ 16384) = false := decide_eq_false c24
    have c24b1 : decide (l1_1.length ≤ 16384) = false := decide_eq_false (by omega)
    clear c24
    obtain rfl := Option.some.inj H
  rotate_left 4
  focus
   rw [if_neg c23] at H
   have c23b0 : (a1_0 == 1) = false := beq_eq_false_iff_ne.mpr c23
   have c23b1 : (a1_0 != 1) = true := bne_iff_ne.mpr c23
   by_cases c44 : a1_0 = 2
   focus
    rw [if_pos c44] at H
    have c44b0 : (a1_0 == 2) = true := beq_iff_eq.mpr c44
    have c44b1 : (a1_0 != 2) = false := bne_eq_false_iff_eq.mpr c44
    clear c44
    by_cases c45 : (l1_1.length : Int) = 0
    focus
     rw [if_pos c45] at H
     have c45b0 : ((l1_1.length : Int) == 0) = true := beq_iff_eq.mpr c45
     have c45b1 : ((l1_1.length : Int) != 0) = false := bne_eq_false_iff_eq.mpr c45
     clear c45
     by_cases c46 : a1_3.toList = ([] : List UInt8)
     focus
      rw [if_pos c46] at H
      have c46b0 : (a1_3.toList == ([] : List UInt8)) = true := beq_iff_eq.mpr c46
      have c46b1 : (a1_3.toList != ([] : List UInt8)) = false := bne_eq_false_iff_eq.mpr c46
      clear c46
      replace H := Option.bind_eq_some_iff.mp H
      obtain ⟨t154, A470, H⟩ := H
      replace H : (if t154 = true then ((zcq.f l0_0 l1_2).bind fun t155 => (some t155)) else (some false)) = some r := H
      have A47 := zaa.mk A470
      clear A470
      by_cases c48 : t154 = true
      focus
       subst c48
       have H1 : ((zcq.f l0_0 l1_2).bind fun t155 => (some t155)) = some r := by rw [if_pos rfl] at H; exact H
       clear H
       have H := H1
       clear H1
       replace H := Option.bind_eq_some_iff.mp H
       obtain ⟨t155, A490, H⟩ := H
       replace H : (some t155) = some r := H
       have A49 := zaa.mk A490
       clear A490
       obtain rfl := Option.some.inj H
      rotate_left 1
      focus
       replace c48 := Bool.eq_false_iff.mpr c48
       subst c48
       have H1 : (some false) = some r := by rw [if_neg (show ¬ (false = true) by decide)] at H; exact H
       clear H
       have H := H1
       clear H1
       obtain rfl := Option.some.inj H
     rotate_left 2
     focus
      rw [if_neg c46] at H
      have c46b0 : (a1_3.toList == ([] : List UInt8)) = false := beq_eq_false_iff_ne.mpr c46
      have c46b1 : (a1_3.toList != ([] : List UInt8)) = true := bne_iff_ne.mpr c46
      obtain rfl := Option.some.inj H
    rotate_left 3
    focus
     rw [if_neg c45] at H
     have c45b0 : ((l1_1.length : Int) == 0) = false := beq_eq_false_iff_ne.mpr c45
     have c45b1 : ((l1_1.length : Int) != 0) = true := bne_iff_ne.mpr c45
     have c45b2 : ¬ (l1_1 = []) := fun h_ => c45 (by rw [h_]; rfl)
     obtain rfl := Option.some.inj H
   rotate_left 4
   focus
    rw [if_neg c44] at H
    have c44b0 : (a1_0 == 2) = false := beq_eq_false_iff_ne.mpr c44
    have c44b1 : (a1_0 != 2) = true := bne_iff_ne.mpr c44
    by_cases c68 : a1_0 = 3
    focus
     rw [if_pos c68] at H
     have c68b0 : (a1_0 == 3) = true := beq_iff_eq.mpr c68
     have c68b1 : (a1_0 != 3) = false := bne_eq_false_iff_eq.mpr c68
     clear c68
     by_cases c69 : (wrap64 ((l1_1.length : Int) + (l1_2.length : Int))) = 0
     focus
      rw [if_pos c69] at H
      have c69b0 : ((wrap64 ((l1_1.length : Int) + (l1_2.length : Int))) == 0) = true := beq_iff_eq.mpr c69
      have c69b1 : ((wrap64 ((l1_1.length : Int) + (l1_2.length : Int))) != 0) = false := bne_eq_false_iff_eq.mpr c69
      clear c69
      replace H := Option.bind_eq_some_iff.mp H
      obtain ⟨t156, A700, H⟩ := H
      replace H : (if t156 = true then ((za7.f a1_5).bind fun t157 => (some t157)) else (some false)) = some r := H
      have A70 := zaa.mk A700
      clear A700
      by_cases c71 : t156 = true
      focus
       subst c71
       have H1 : ((za7.f a1_5).bind fun t157 => (some t157)) = some r := by rw [if_pos rfl] at H; exact H
       clear H
       have H := H1
       clear H1
       replace H := Option.bind_eq_some_iff.mp H
       obtain ⟨t157, A720, H⟩ := H
       replace H : (some t157) = some r := H
       have A72 := zaa.mk A720
       clear A720
       obtain rfl := Option.some.inj H
      rotate_left 1
      focus
       replace c71 := Bool.eq_false_iff.mpr c71
       subst c71
       have H1 : (some false) = some r := by rw [if_neg (show ¬ (false = true) by decide)] at H; exact H
       clear H
       have H := H1
       clear H1
       obtain rfl := Option.some.inj H
     rotate_left 2
     focus
      rw [if_neg c69] at H
      have c69b0 : ((wrap64 ((l1_1.length : Int) + (l1_2.length : Int))) == 0) = false := beq_eq_false_iff_ne.mpr c69
      have c69b1 : ((wrap64 ((l1_1.length : Int) + (l1_2.length : Int))) != 0) = true := bne_iff_ne.mpr c69
      obtain rfl := Option.some.inj H
    rotate_left 3
    focus
     rw [if_neg c68] at H
     have c68b0 : (a1_0 == 3) = false := beq_eq_false_iff_ne.mpr c68
     have c68b1 : (a1_0 != 3) = true := bne_iff_ne.mpr c68
     obtain rfl := Option.some.inj H
 all_goals
  go_enter Try.func59, Try.ntmps59
  go_wp2_with (first | ((with_reducible refine zaT (N := 2) rfl ?_); (try (refine zbB (by rfl) ?_; dsimp only)); refine zaN ?hg (N := 2) ?hd (cs := #[.slice A0_0 l0_0.length c0_0]) (t := 24) ?hr ?_; (case hd => rfl); (case hg => rfl); (case hr => first | (go_simp; done) | (go_simp; rfl)); intro gb151 hg wq1 hbox hb; have n0_ := zaa.mk (zai (by repeat (first | (with_reducible first | exact HB.out | apply zac | apply zab | apply zad) | exact HB.out)) hb); have n1_ := zaa.mk (hbox); have n2_ := zaa.mk ((by rw [hg]; exact (zao (by repeat (first | (with_reducible first | exact HB.out | apply zac | apply zab | apply zad) | exact HB.out))) : w.heap.size ≤ gb151)); have n3_ := zaa.mk ((by rw [hg]; exact (zao (by repeat (first | (with_reducible first | exact HB.out | apply zac | apply zab | apply zad) | exact HB.out))) : w.heap.size ≤ gb151)); clear HB; have HB := n0_; have BK151 := n1_; have GW151 := n2_; have GE151 := n3_; clear n0_ n1_ n2_ n3_; clear hb hbox hg) | ((with_reducible refine zaT (N := 3) rfl ?_); (try (refine zbB (by rfl) ?_; dsimp only)); refine zaN ?hg (N := 3) ?hd (cs := #[.int .i64 a1_0, .slice A1_1 l1_1.length c1_1, .slice A1_2 l1_2.length c1_2, .string a1_3, .int .i64 a1_4, .int .i64 a1_5]) (t := 45) ?hr ?_; (case hd => rfl); (case hg => rfl); (case hr => first | (go_simp; done) | (go_simp; rfl)); intro gb152 hg wq2 hbox hb; have n0_ := zaa.mk (zaq (g := gb151) (o := .cells #[.slice A0_0 l0_0.length c0_0] 24 (0, 0)) (by (with_reducible repeat (first | refine zak ?_ _ | refine zam ?_ | refine zaj ?_ _)); exact BK151.out) hb); have n1_ := zaa.mk (zai (by repeat (first | (with_reducible first | exact HB.out | apply zac | apply zab | apply zad | refine zal ?_ GE151.out) | exact HB.out)) hb); have n2_ := zaa.mk (hbox); have n3_ := zaa.mk ((by rw [hg]; exact (zao (by repeat (first | (with_reducible first | exact HB.out | apply zac | apply zab | apply zad | refine zal ?_ GE151.out) | exact HB.out))) : w.heap.size ≤ gb152)); have n4_ := zaa.mk ((by rw [hg]; exact (zao (by repeat (first | (with_reducible first | exact HB.out | apply zac | apply zab | apply zad | refine zal ?_ GE151.out) | exact HB.out))) : w.heap.size ≤ gb152)); have n5_ := zaa.mk ((by rw [hg]; exact Nat.ne_of_lt (zaV (g := gb151) (o := .cells #[.slice A0_0 l0_0.length c0_0] 24 (0, 0)) (by (with_reducible repeat (first | refine zak ?_ _ | refine zam ?_ | refine zaj ?_ _)); exact BK151.out)) : gb151 ≠ gb152)); have n6_ := zaa.mk ((by rw [hg]; exact Nat.ne_of_gt (zaV (g := gb151) (o := .cells #[.slice A0_0 l0_0.length c0_0] 24 (0, 0)) (by (with_reducible repeat (first | refine zak ?_ _ | refine zam ?_ | refine zaj ?_ _)); exact BK151.out)) : gb152 ≠ gb151)); clear BK151; clear HB; have BK151 := n0_; have HB := n1_; have BK152 := n2_; have GW152 := n3_; have GE152 := n4_; have NB151_152 := n5_; have NB152_151 := n6_; clear n0_ n1_ n2_ n3_ n4_ n5_ n6_; clear hb hbox hg; have hnbq3 := NB152_151.out; have hncq3 := NB151_152.out; have hczq4_0 : wq2.cell? ⟨gb152, 0, none⟩ = some (.int .i64 a1_0) := (zah BK152.out 0).trans rfl; have hczq4_1 : wq2.cell? ⟨gb152, 1, none⟩ = some (.slice A1_1 l1_1.length c1_1) := (zah BK152.out 1).trans rfl; have hczq4_2 : wq2.cell? ⟨gb152, 2, none⟩ = some (.slice A1_2 l1_2.length c1_2) := (zah BK152.out 2).trans rfl; have hczq4_3 : wq2.cell? ⟨gb152, 3, none⟩ = some (.string a1_3) := (zah BK152.out 3).trans rfl; have hczq4_4 : wq2.cell? ⟨gb152, 4, none⟩ = some (.int .i64 a1_4) := (zah BK152.out 4).trans rfl; have hczq4_5 : wq2.cell? ⟨gb152, 5, none⟩ = some (.int .i64 a1_5) := (zah BK152.out 5).trans rfl; have hfzq4_0 := zaf BK152.out 0; have hfzq4_1 := zaf BK152.out 1; have hfzq4_2 := zaf BK152.out 2; have hfzq4_3 := zaf BK152.out 3; have hfzq4_4 := zaf BK152.out 4; have hfzq4_5 := zaf BK152.out 5) | (go_at_call 45; (with_reducible refine (za7.calls a1_5 _ _ A27.out).mono ?_); rintro e w' ⟨rfl, ⟨nd, rfl⟩⟩) | (go_at_call 45; (with_reducible refine (za7.calls a1_5 _ _ A47.out).mono ?_); rintro e w' ⟨rfl, ⟨nd, rfl⟩⟩; have hczq5_0 : wq2.cell? ⟨gb151, 0, none⟩ = some (.slice A0_0 l0_0.length c0_0) := (zah BK151.out 0).trans rfl; have hfzq5_0 := zaf BK151.out 0) | (go_at_call 72; (with_reducible refine (zcq.calls _ _ l0_0 _ _ l1_2 _ _ ?side1 ?side2 ?side3 ?side4 A49.out).mono ?_); (case side1 => repeat (first | exact (Kd.C_below HR0_0.out (by repeat (first | (with_reducible first | exact HB.out | apply zac | apply zab | apply zad | refine zal ?_ GE151.out | refine zal ?_ GE152.out) | exact HB.out))) | (with_reducible refine Kd.C_alloc ?_ _) | (with_reducible refine Kd.C_drewN ?_ _) | (with_reducible refine Kd.C_drew ?_))); (case side2 => exact HC0_0.out); (case side3 => repeat (first | exact (Kd.C_below HR1_2.out (by repeat (first | (with_reducible first | exact HB.out | apply zac | apply zab | apply zad | refine zal ?_ GE151.out | refine zal ?_ GE152.out) | exact HB.out))) | (with_reducible refine Kd.C_alloc ?_ _) | (with_reducible refine Kd.C_drewN ?_ _) | (with_reducible refine Kd.C_drew ?_))); (case side4 => exact HC1_2.out); rintro e wq6 ⟨rfl, hb⟩; have n0_ := zaa.mk (zaq (g := gb151) (o := .cells #[.slice A0_0 l0_0.length c0_0] 24 (0, 0)) (by (with_reducible repeat (first | refine zak ?_ _ | refine zam ?_ | refine zaj ?_ _)); exact BK151.out) hb); have n1_ := zaa.mk (zaq (g := gb152) (o := .cells #[.int .i64 a1_0, .slice A1_1 l1_1.length c1_1, .slice A1_2 l1_2.length c1_2, .string a1_3, .int .i64 a1_4, .int .i64 a1_5] 45 (0, 0)) (by (with_reducible repeat (first | refine zak ?_ _ | refine zam ?_ | refine zaj ?_ _)); exact BK152.out) hb); have n2_ := zaa.mk (zai (by repeat (first | (with_reducible first | exact HB.out | apply zac | apply zab | apply zad | refine zal ?_ GE151.out | refine zal ?_ GE152.out) | exact HB.out)) hb); clear BK151; clear BK152; clear HB; have BK151 := n0_; have BK152 := n1_; have HB := n2_; clear n0_ n1_ n2_; (try clear hb); (try clear hb2); (try clear hk); (try clear hi)) | (go_at_call 45; (with_reducible refine (za7.calls a1_5 _ _ A47.out).mono ?_); rintro e w' ⟨rfl, ⟨nd, rfl⟩⟩) | (go_at_call 73; (with_reducible refine (zcg.calls a1_3 _ _ A70.out).mono ?_); rintro e w' ⟨rfl, ⟨nd, rfl⟩⟩) | (go_at_call 45; (with_reducible refine (za7.calls a1_5 _ _ A72.out).mono ?_); rintro e w' ⟨rfl, ⟨nd, rfl⟩⟩))
  go_ret
  exact ⟨by first | rfl | (simp [zas, zar] <;> rfl) | (simp [*, zas, zar] <;> rfl), by repeat (first | (with_reducible first | exact HB.out | apply zac | apply zab | apply zad | refine zal ?_ GE151.out | refine zal ?_ GE152.out) | exact HB.out)⟩
end Go.Proofs.Ytjghephnjkffcaa.PCk
