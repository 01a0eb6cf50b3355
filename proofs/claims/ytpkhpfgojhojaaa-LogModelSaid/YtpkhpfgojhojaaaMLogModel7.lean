/- Parts of one proof, merged by merge.py of this repo: walks over the given program and plain facts, used by the law of the file YtpkhpfgojhojaaaCLogModel. -/
import Derived.Test.YtpkhpfgojhojaaaMLogModel3
import Derived.Test.YtpkhpfgojhojaaaMLogModel6
import Derived.Test.YtpkhpfgojhojaaaMLogModel5
import Derived.Test.YtpkhpfgojhojaaaMLogModel2
import Derived.Test.YtpkhpfgojhojaaaMLogModel4
namespace Go.Proofs.Ytpkhpfgojhojaaa.PLg
open Go.RowKit Go.Proofs.YtpkhpfgojhojaaaW.PrintWords Go.Proofs.YtpkhpfgojhojaaaW.PrintLast Go.Proofs.YtpkhpfgojhojaaaW.PrintMore
attribute [local go_sem] max2_int min2_int max_two min_two max_three min_three max_four min_four   -- for this text's walks alone
set_option linter.unusedVariables false
set_option linter.unusedSimpArgs false

/-! ### gangwayref0_CopyCells: function 39 -/
def gangwayref0_CopyCells.l0 : Nat → List (List Int) → List (List Int) → Int → Option ((List (List Int)))
  | 0, _, _, _ => none
  | k + 1, x0, x3, x4 => if x4 < (x0.length : Int) then (if 0 ≤ x4 then ((gangwayref0_CopyBytes.f k (rd_L2 x0 x4)).bind fun t175 => (if x3.length < 5864062014805 then (gangwayref0_CopyCells.l0 k x0 (x3 ++ [t175]) (wrap64 (x4 + 1))) else (none))) else (none)) else (some x3)
def gangwayref0_CopyCells.f (k : Nat) (l0 : List (List Int)) : Option ((List (List Int))) := gangwayref0_CopyCells.l0 k l0 ([] : List (List Int)) 0
theorem gangwayref0_CopyCells.mono_l : ∀ k, (∀ y0 y1 y2, LeO (gangwayref0_CopyCells.l0 k y0 y1 y2) (gangwayref0_CopyCells.l0 (k + 1) y0 y1 y2))
  | 0 => fun _ _ _ r h => by simp [gangwayref0_CopyCells.l0] at h
  | k + 1 => by
    have ih0 := gangwayref0_CopyCells.mono_l k
    · intro y0 y1 y2
      unfold gangwayref0_CopyCells.l0
      repeat' first
      | (with_reducible exact ih0 _ _ _)
      | (with_reducible exact gangwayref0_CopyBytes.mono _ _)
      | (with_reducible exact LeO.refl _)
      | (with_reducible exact LeO.none _)
      | (with_reducible refine LeO.ite ?_ ?_)
      | (with_reducible refine LeO.bind ?_ (fun _ => ?_))
      | exact ih0 _ _ _
      | exact gangwayref0_CopyBytes.mono _ _
      | exact LeO.none _
      | refine LeO.ite ?_ ?_
      | refine LeO.bind ?_ (fun _ => ?_)
theorem gangwayref0_CopyCells.mono : ∀ a0 k, LeO (gangwayref0_CopyCells.f k a0) (gangwayref0_CopyCells.f (k + 1) a0) := by
  intro a0 k
  have ih0 := gangwayref0_CopyCells.mono_l k
  unfold gangwayref0_CopyCells.f
  repeat' first
      | (with_reducible exact ih0 _ _ _)
      | (with_reducible exact gangwayref0_CopyBytes.mono _ _)
      | (with_reducible exact LeO.refl _)
      | (with_reducible exact LeO.none _)
      | (with_reducible refine LeO.ite ?_ ?_)
      | (with_reducible refine LeO.bind ?_ (fun _ => ?_))
      | exact ih0 _ _ _
      | exact gangwayref0_CopyBytes.mono _ _
      | exact LeO.none _
      | refine LeO.ite ?_ ?_
      | refine LeO.bind ?_ (fun _ => ?_)
set_option maxHeartbeats 8000000 in
set_option maxRecDepth 100000 in
theorem gangwayref0_CopyCells.calls (k : Nat) (A0 : Option Addr) (c0 : Nat) (l0 : List (List Int)) (r : List (List Int)) (w : World) (hr0 : Kd.C (Kd.slice 5 (Kd.int .u8)) w A0 l0.length l0) (hc0 : l0.length ≤ c0) (h : gangwayref0_CopyCells.f k l0 = some r) :
    Calls Try.prog 39 #[.slice A0 l0.length c0] w fun e w' => ∃ v0_ : Value, e = .returned (v0_) ∧ Kd.S (Kd.slice 5 (Kd.int .u8)) 30 w' w.heap.size (fun _ => True) v0_ r ∧ Below w.heap.size w w' := by
  have HR0 := Aside0.mk hr0
  have HC0 := Aside0.mk hc0
  clear hr0 hc0
  have HB := Aside0.mk (Below.refl w.heap.size w)
  have H : (gangwayref0_CopyCells.l0 k l0 ([] : List (List Int)) 0) = some r := h
  clear h
  have H' := Aside0.mk H
  clear H
  go_enter Try.func39, Try.ntmps39
  go_wp2
  go_loopg [3, 4] k (fun kq v3 v4 w' => ∃ (x3_1 : List (List Int)) (x4_1 : Int), v4 = .int .i64 x4_1 ∧ Aside0 (gangwayref0_CopyCells.l0 kq l0 x3_1 x4_1 = some r) ∧ Aside0 (kq ≤ k) ∧ Aside0 (Kd.S (Kd.slice 5 (Kd.int .u8)) 30 w' w.heap.size (fun _ => True) v3 x3_1) ∧ Aside0 (Below w.heap.size w w'))
  case atStart => exact ⟨(([] : List (List Int))), (0), (by first | rfl | (simp; done) | (simp [*]; done)), H', ⟨Nat.le_refl _⟩, ⟨by first | exact Kd.S_nil _ _ _ _ _ | exact Kd.N_nil _ _ _ _ _ | exact Kd.V_nil _ _ _ _ _ | exact Kd.Q_nil _ _ _ _ _ | exact Kd.R_nil _ _ _ _ _⟩, ⟨by repeat (first | (with_reducible first | exact HB.out | apply below_alloc | apply pw_below_drewN | apply below_drew1) | exact HB.out)⟩⟩
  case round =>
    clear H'
    obtain ⟨x3_1, x4_1, rfl, HA, HK1, HO_3, HB⟩ := hrel
    cases gk with
    | zero => exact absurd HA.out (by simp [gangwayref0_CopyCells.l0])
    | succ k1 =>
      have H := HA.out
      clear HA
      simp only [gangwayref0_CopyCells.l0] at H
      by_cases c2 : x4_1 < (l0.length : Int)
      · rw [if_pos c2] at H
        have c2b0 : decide (x4_1 < (l0.length : Int)) = true := decide_eq_true c2
        clear c2
        by_cases c3 : 0 ≤ x4_1
        · rw [if_pos c3] at H
          have c3b0 : decide (0 ≤ x4_1) = true := decide_eq_true c3
          clear c3
          replace H := Option.bind_eq_some_iff.mp H
          obtain ⟨t175, A40, H⟩ := H
          replace H : (if x3_1.length < 5864062014805 then (gangwayref0_CopyCells.l0 k1 l0 (x3_1 ++ [t175]) (wrap64 (x4_1 + 1))) else (none)) = some r := H
          have A4 := Aside0.mk A40
          clear A40
          by_cases c5 : x3_1.length < 5864062014805
          · rw [if_pos c5] at H
            have LMc5 := Aside0.mk c5
            clear c5
            obtain ⟨y178, hy178⟩ : ∃ y_ : List (List Int), y_ = (x3_1 ++ [t175]) := ⟨_, rfl⟩
            replace H : (gangwayref0_CopyCells.l0 k1 l0 y178 (wrap64 (x4_1 + 1))) = some r := by first | (rw [hy178]; with_reducible exact H) | (have H2_ := (Option.bind_some _ _).symm.trans H; rw [hy178]; with_reducible exact H2_) | (have H2_ := (Option.bind_some _ _).symm.trans H; with_reducible exact H2_) | with_reducible exact H | (rw [hy178]; exact H) | exact H
            have Ny178 := Aside0.mk hy178
            clear hy178
            have H' := Aside0.mk H
            clear H
            have p174 : 0 ≤ (x4_1 : Int) := of_decide_eq_true (by first | (with_reducible assumption) | assumption)
            have q174 : x4_1 < (l0.length : Int) := of_decide_eq_true (by first | (with_reducible assumption) | assumption)
            obtain ⟨ad174, A174_0, c174_0, e174, hx174_0, hl174_0, hi174_0⟩ := at_L2 HR0.out x4_1 p174 q174
            cases e174
            replace hx174_0 := (HB.out.cell (World.block_lt_of_cell? w _ hx174_0)).trans hx174_0
            have HR174_0 := Aside0.mk hi174_0
            have HC174_0 := Aside0.mk hl174_0
            clear hi174_0 hl174_0
            replace p174 := eq_true p174
            replace q174 := eq_true q174
            go_wp2_with (first | ((with_reducible refine gate_callee (f := 20) rfl ?_); refine goesL_ (some 16) rfl rfl Try.func20 (by kernel_rfl) rfl #[.slice A174_0 (rd_L2 l0 x4_1).length c174_0] rfl (by (try simp only [List.map_toArray, List.map_cons, List.map_nil]); first | done | rfl | (simp only [List.length_drop, List.length_take]; rfl)) ?_; (with_reducible refine (gangwayref0_CopyBytes.calls k1 _ _ (rd_L2 l0 x4_1) t175 _ ?side1 ?side2 A4.out).mono ?_); (case side1 => repeat (first | exact (Kd.C_below HR174_0.out HB.out) | (with_reducible refine Kd.C_alloc ?_ _) | (with_reducible refine Kd.C_drewN ?_ _) | (with_reducible refine Kd.C_drew ?_))); (case side2 => exact HC174_0.out); rintro e w6 ⟨v176, rfl, ho0, hb⟩; refine ⟨_, rfl, ?_⟩; have n0_ := Aside0.mk (Kd.S_elder' (by (with_reducible repeat (first | apply Kd.S_alloc | apply Kd.S_drewN | apply Kd.S_drew)); exact HO_3.out) (Kd.R_base ho0) hb); have n1_ := Aside0.mk (Kd.R_lower ho0 (below_size (by repeat (first | (with_reducible first | exact HB.out | apply below_alloc | apply pw_below_drewN | apply below_drew1) | exact HB.out)))); have n2_ := Aside0.mk (below_step (by repeat (first | (with_reducible first | exact HB.out | apply below_alloc | apply pw_below_drewN | apply below_drew1) | exact HB.out)) hb); clear HO_3; clear HB; have HO_3 := n0_; have HO177 := n1_; have HB := n2_; clear n0_ n1_ n2_; (try clear hb); (try clear hb2); (try clear hk); (try clear hi); (try clear ho0); obtain ⟨Ao8, co8, eo8⟩ := Kd.R_slice HO177.out; subst eo8) | ((with_reducible refine gate_builtin (b := .append) (xs := #[.tmp 11, .tmp 17]) rfl ?_); at_builtin; refine Kd.S_append (Kd.slice 5 (Kd.int .u8)) (w0 := w) w.heap.size rfl (.tmp 11) (.tmp 17) 63 30 (.slice none 0 0) 24 rfl Try.underlying63 info30 rfl (by decide) (by omega) u3 x3_1 t175 [.slice Ao8 t175.length co8] (fun _ => True) (fun k_ => some k_ = (.slice Ao8 t175.length co8 : Value).ownBlock) rfl rfl ?aP (fun k_ hk_ => ((Kd.R_mono (ok' := fun k_ => ((fun _ => True)) k_ ∧ some k_ ≠ (u3 : Value).ownBlock) (Kd.R_apart' (HO177.out) (Kd.S_typed HO_3.out) (by decide)) (fun k_ hk => ⟨trivial, hk.2⟩))).1 k_ hk_.symm) ?aF ?aO ?aB ?aS ?aL ?_; (case aP => exact Kd.M_row (Kd.R_mono (Kd.R_tight rfl (Kd.R_mono (ok' := fun k_ => ((fun _ => True)) k_ ∧ some k_ ≠ (u3 : Value).ownBlock) (Kd.R_apart' (HO177.out) (Kd.S_typed HO_3.out) (by decide)) (fun k_ hk => ⟨trivial, hk.2⟩))) (fun _ h_ => h_))); (case aB => exact (by repeat (first | (with_reducible first | exact HB.out | apply below_alloc | apply pw_below_drewN | apply below_drew1) | exact HB.out))); (case aF => exact (fun _ _ => trivial)); (case aO => exact (by (with_reducible repeat (first | apply Kd.S_alloc | apply Kd.S_drewN | apply Kd.S_drew)); exact Kd.S_mono HO_3.out (fun k_ hk => ⟨trivial, fun e_ => hk.2 e_⟩))); (case aS => exact (below_size (by repeat (first | (with_reducible first | exact HB.out | apply below_alloc | apply pw_below_drewN | apply below_drew1) | exact HB.out)))); (case aL => have := LMc5.out; omega); intro v179 w7 ho hb hg hat; rw [← Ny178.out] at ho; have n0_ := Aside0.mk (hb); have n1_ := Aside0.mk (ho); clear HB; clear HO_3; clear HO177; have HB := n0_; have HO180 := n1_; clear n0_ n1_; clear ho hb hg hat))
            go_roundg k1
            case measure => have := HK1.out; omega
            case rel => exact ⟨(y178), (wrap64 (x4_1 + 1)), (by first | rfl | (simp; done) | (simp [*]; done)), H', ⟨by have := HK1.out; omega⟩, ⟨by (with_reducible repeat (first | apply Kd.S_alloc | apply Kd.S_drewN | apply Kd.S_drew)); exact HO180.out⟩, ⟨by repeat (first | (with_reducible first | exact HB.out | apply below_alloc | apply pw_below_drewN | apply below_drew1) | exact HB.out)⟩⟩
          · rw [if_neg c5] at H
            exact absurd H (by simp)
        · rw [if_neg c3] at H
          exact absurd H (by simp)
      · rw [if_neg c2] at H
        have c2b0 : decide (x4_1 < (l0.length : Int)) = false := decide_eq_false c2
        clear c2
        obtain rfl := Option.some.inj H
        go_wp2
        go_ret
        exact ⟨_, by first | rfl | (simp [errW_none, errW_some] <;> rfl) | (simp [*, errW_none, errW_some] <;> rfl), by (with_reducible repeat (first | apply Kd.S_alloc | apply Kd.S_drewN | apply Kd.S_drew)); exact HO_3.out, by repeat (first | (with_reducible first | exact HB.out | apply below_alloc | apply pw_below_drewN | apply below_drew1) | exact HB.out)⟩

end Go.Proofs.Ytpkhpfgojhojaaa.PLg

namespace Go.Proofs.Ytpkhpfgojhojaaa.PLg
open Go.RowKit Go.Proofs.YtpkhpfgojhojaaaW.PrintWords Go.Proofs.YtpkhpfgojhojaaaW.PrintLast Go.Proofs.YtpkhpfgojhojaaaW.PrintMore
attribute [local go_sem] max2_int min2_int max_two min_two max_three min_three max_four min_four
set_option linter.unusedVariables false
set_option linter.unusedSimpArgs false
-- IMPORT: Derived.Test.@N@WOwn
-- IMPORT: Derived.Test.@N@DLquiet
/-! ### Rows of rows: copied, and compared. -/
theorem lcopy_l0 (a : List Int) (hm : a.length < 140737488355328) : ∀ (d i : Nat), i + d = a.length → gangwayref0_CopyBytes.l0 (d + 1) a (a.take i) (i : Int) = some a
  | 0, i, h => by rw [gangwayref0_CopyBytes.l0, if_neg (by omega), List.take_of_length_le (by omega)]
  | d + 1, i, h => by
    rw [gangwayref0_CopyBytes.l0, if_pos (by omega), if_pos (by omega), if_pos (by rw [List.length_take]; omega), up64 (by omega), rd_get a i (by omega), ← List.take_succ_eq_append_getElem (by omega)]
    exact lcopy_l0 a hm d (i + 1) (by omega)
theorem lcopy_k (a : List Int) (hm : a.length < 140737488355328) (k : Nat) (hk : a.length + 1 ≤ k) : gangwayref0_CopyBytes.f k a = some a :=
  at_rounds (g := fun k => gangwayref0_CopyBytes.f k a) (fun k => gangwayref0_CopyBytes.mono _ _) hk (lcopy_l0 a hm a.length 0 (by omega))
theorem lg_copyB (A : Option Addr) (c : Nat) (l : List Int) (w : World) (hC : (Kd.int .u8).C w A l.length l) (hc : l.length ≤ c) (hm : l.length < 140737488355328) :
    Calls Try.prog 20 #[.slice A l.length c] w fun e w' => ∃ v : Value, e = .returned v ∧ (Kd.int .u8).R 5 w' w.heap.size (fun _ => True) v l ∧ Below w.heap.size w w' :=
  gangwayref0_CopyBytes.calls (l.length + 1) A c l l w hC hc (lcopy_k l hm _ (Nat.le_refl _))
theorem lcells_l0 (rs : List (List Int)) (hm : layLen rs < 1000000000) : ∀ (d i : Nat), i + d = rs.length → gangwayref0_CopyCells.l0 (layLen rs + 1 + d + 1) rs (rs.take i) (i : Int) = some rs
  | 0, i, h => by rw [Nat.add_zero, gangwayref0_CopyCells.l0, if_neg (by omega), List.take_of_length_le (by omega)]
  | d + 1, i, h => by
    have hi : i < rs.length := by omega
    have hx := layLen_next rs i hi
    have hc := layLen_count rs
    rw [gangwayref0_CopyCells.l0, if_pos (by omega), if_pos (by omega), rd_L2_at rs i hi, lcopy_k _ (by omega) _ (by omega), Option.bind_some, if_pos (by rw [List.length_take]; omega), up64 (by omega), ← List.take_succ_eq_append_getElem hi]
    exact lcells_l0 rs hm d (i + 1) (by omega)
theorem lg_copyCells (A : Option Addr) (c : Nat) (rs : List (List Int)) (w : World) (hC : Kd.C (Kd.slice 5 (Kd.int .u8)) w A rs.length rs) (hc : rs.length ≤ c) (hm : layLen rs < 1000000000) :
    Calls Try.prog 39 #[.slice A rs.length c] w fun e w' => ∃ v : Value, e = .returned v ∧ Kd.S (Kd.slice 5 (Kd.int .u8)) 30 w' w.heap.size (fun _ => True) v rs ∧ Below w.heap.size w w' :=
  gangwayref0_CopyCells.calls _ A c rs rs w hC hc (lcells_l0 rs hm rs.length 0 (by omega))
theorem leqc_l0 (a b : List (List Int)) (hl : a.length = b.length) (hm : layLen a < 1000000000) : ∀ (d i : Nat), i + d = a.length → gangwayref0_EqCells.l0 (layLen a + 1 + d + 1) a b (i : Int) = some (decide (a.drop i = b.drop i))
  | 0, i, h => by rw [Nat.add_zero, gangwayref0_EqCells.l0, if_neg (by omega), List.drop_of_length_le (by omega), List.drop_of_length_le (by omega), decide_eq_true rfl]
  | d + 1, i, h => by
    have hi : i < a.length := by omega
    have hx := layLen_next a i hi
    have hc := layLen_count a
    have hb : i < b.length := by omega
    have hdb : b.drop i = b[i] :: b.drop (i + 1) := List.drop_eq_getElem_cons hb
    rw [gangwayref0_EqCells.l0, if_pos (by omega), if_pos (by omega), if_pos (by omega), rd_L2_at a i hi, rd_L2_at b i (by omega), eqB_k _ _ (by omega) _ (by omega), Option.bind_some, up64 (by omega), show layLen a + 1 + (d + 1) = layLen a + 1 + d + 1 by omega, leqc_l0 a b hl hm d (i + 1) (by omega), List.drop_eq_getElem_cons hi, hdb]
    by_cases he : a[i] = b[i]
    · rw [if_pos (decide_eq_true he)]
      exact congrArg some (decide_eq_decide.2 ⟨fun h => by rw [he, h], fun h => (List.cons.inj h).2⟩)
    · rw [if_neg (by simpa using he), decide_eq_false (fun h => he (List.cons.inj h).1)]
theorem lg_eqCells (A : Option Addr) (c : Nat) (a : List (List Int)) (B : Option Addr) (c2 : Nat) (b : List (List Int)) (w : World) (hA : Kd.C (Kd.slice 5 (Kd.int .u8)) w A a.length a) (hc : a.length ≤ c) (hB : Kd.C (Kd.slice 5 (Kd.int .u8)) w B b.length b) (hc2 : b.length ≤ c2) (hm : layLen a < 1000000000) :
    Calls Try.prog 36 #[.slice A a.length c, .slice B b.length c2] w fun e w' => e = .returned (.bool (decide (a = b))) ∧ Drawn0 w w' := by
  refine gangwayref0_EqCells.calls (layLen a + 1 + a.length + 1) A c a B c2 b _ w hA hc hB hc2 ?_
  unfold gangwayref0_EqCells.f
  by_cases hl : a.length = b.length
  · rw [if_pos (by omega)]
    have := leqc_l0 a b hl hm a.length 0 (by omega)
    simpa using this
  · rw [if_neg (by omega), decide_eq_false (fun h => hl (by rw [h]))]
end Go.Proofs.Ytpkhpfgojhojaaa.PLg

namespace Go.Proofs.Ytpkhpfgojhojaaa.PLg
open Go.RowKit Go.Proofs.YtpkhpfgojhojaaaW.PrintWords Go.Proofs.YtpkhpfgojhojaaaW.PrintLast Go.Proofs.YtpkhpfgojhojaaaW.PrintMore
attribute [local go_sem] max2_int min2_int max_two min_two max_three min_three max_four min_four   -- for this text's walks alone
set_option linter.unusedVariables false
set_option linter.unusedSimpArgs false

/-! ### gangwaylaw12_replaced: function 42 -/
def gangwaylaw12_replaced.f (k : Nat) (l0 : List (List Int)) (a1_0 : Int) (a1_1 : Int) (l1_2 : List Int) (l1_3 : List Int) : Option ((List (List Int))) := (gangwaylaw0_Within.f a1_1 (wrap64 ((l0.length : Int) + 1))).bind fun t191 => (if 0 ≤ (wrap64 ((l0.length : Int) - t191)) then (if (wrap64 ((l0.length : Int) - t191)) ≤ (l0.length : Int) then ((gangwayref0_CopyCells.f k (l0.drop ((wrap64 ((l0.length : Int) - t191)) : Int).toNat)).bind fun t196 => ((gangwayref0_CopyBytes.f k l1_2).bind fun t199 => (if t196.length < 5864062014805 then (some (t196 ++ [t199])) else (none)))) else (none)) else (none))
theorem gangwaylaw12_replaced.mono : ∀ a0 a1 a2 a3 a4 k, LeO (gangwaylaw12_replaced.f k a0 a1 a2 a3 a4) (gangwaylaw12_replaced.f (k + 1) a0 a1 a2 a3 a4) := by
  intro a0 a1 a2 a3 a4 k
  unfold gangwaylaw12_replaced.f
  repeat' first
      | (with_reducible exact gangwayref0_CopyBytes.mono _ _)
      | (with_reducible exact gangwayref0_CopyCells.mono _ _)
      | (with_reducible exact LeO.refl _)
      | (with_reducible exact LeO.none _)
      | (with_reducible refine LeO.ite ?_ ?_)
      | (with_reducible refine LeO.bind ?_ (fun _ => ?_))
      | exact gangwayref0_CopyBytes.mono _ _
      | exact gangwayref0_CopyCells.mono _ _
      | exact LeO.none _
      | refine LeO.ite ?_ ?_
      | refine LeO.bind ?_ (fun _ => ?_)
def gangwaylaw12_replaced.T2 : Bool × List (List Nat × List Nat) := (true, [([], []), ([], []), ([1], [1]), ([], []), ([2, 3], [2, 3]), ([0, 4], [0, 4]), ([5], [5]), ([], []), ([7], [7]), ([8, 6], [8]), ([9], [9]), ([6, 10, 9], [6, 10]), ([11, 11, 0, 1, 2, 3, 4, 5, 6, 7, 8, 9, 10, 11], [11])])
def gangwaylaw12_replaced.B2 : List Nat := [0, 0, 2, 0, 14, 31, 63, 0, 128, 511, 1023, 2047, 4095]
theorem gangwaylaw12_replaced.tab2 : rtab .any (opsOf Try.f42 2) = gangwaylaw12_replaced.T2 := by kernel_rfl
theorem gangwaylaw12_replaced.bits2 : waitsOk gangwaylaw12_replaced.T2.2 gangwaylaw12_replaced.B2 = true := by kernel_rfl
set_option maxHeartbeats 8000000 in
set_option maxRecDepth 100000 in
theorem gangwaylaw12_replaced.calls (k : Nat) (A0 : Option Addr) (c0 : Nat) (l0 : List (List Int)) (a1_0 : Int) (a1_1 : Int) (A1_2 : Option Addr) (c1_2 : Nat) (l1_2 : List Int) (A1_3 : Option Addr) (c1_3 : Nat) (l1_3 : List Int) (r : List (List Int)) (w : World) (hr0 : Kd.C (Kd.slice 5 (Kd.int .u8)) w A0 l0.length l0) (hc0 : l0.length ≤ c0) (hr1_2 : Kd.C (Kd.int .u8) w A1_2 l1_2.length l1_2) (hc1_2 : l1_2.length ≤ c1_2) (hr1_3 : Kd.C (Kd.int .i64) w A1_3 l1_3.length l1_3) (hc1_3 : l1_3.length ≤ c1_3) (h : gangwaylaw12_replaced.f k l0 a1_0 a1_1 l1_2 l1_3 = some r) :
    Calls Try.prog 42 #[.slice A0 l0.length c0, .agg #[.int .i64 a1_0, .int .i64 a1_1, .slice A1_2 l1_2.length c1_2, .slice A1_3 l1_3.length c1_3]] w fun e w' => ∃ v0_ : Value, e = .returned (v0_) ∧ Kd.S (Kd.slice 5 (Kd.int .u8)) 30 w' w.heap.size (fun _ => True) v0_ r ∧ Below w.heap.size w w' := by
  have hu65 := Try.underlying65
  have HR0 := Aside0.mk hr0
  have HC0 := Aside0.mk hc0
  clear hr0 hc0
  have HR1_2 := Aside0.mk hr1_2
  have HC1_2 := Aside0.mk hc1_2
  clear hr1_2 hc1_2
  have HR1_3 := Aside0.mk hr1_3
  have HC1_3 := Aside0.mk hc1_3
  clear hr1_3 hc1_3
  have HB := Aside0.mk (Below.refl w.heap.size w)
  have H : ((gangwaylaw0_Within.f a1_1 (wrap64 ((l0.length : Int) + 1))).bind fun t191 => (if 0 ≤ (wrap64 ((l0.length : Int) - t191)) then (if (wrap64 ((l0.length : Int) - t191)) ≤ (l0.length : Int) then ((gangwayref0_CopyCells.f k (l0.drop ((wrap64 ((l0.length : Int) - t191)) : Int).toNat)).bind fun t196 => ((gangwayref0_CopyBytes.f k l1_2).bind fun t199 => (if t196.length < 5864062014805 then (some (t196 ++ [t199])) else (none)))) else (none)) else (none))) = some r := h
  clear h
  replace H := Option.bind_eq_some_iff.mp H
  obtain ⟨t191, A30, H⟩ := H
  replace H : (if 0 ≤ (wrap64 ((l0.length : Int) - t191)) then (if (wrap64 ((l0.length : Int) - t191)) ≤ (l0.length : Int) then ((gangwayref0_CopyCells.f k (l0.drop ((wrap64 ((l0.length : Int) - t191)) : Int).toNat)).bind fun t196 => ((gangwayref0_CopyBytes.f k l1_2).bind fun t199 => (if t196.length < 5864062014805 then (some (t196 ++ [t199])) else (none)))) else (none)) else (none)) = some r := H
  have A3 := Aside0.mk A30
  clear A30
  obtain ⟨ji4, hji4⟩ : ∃ j_ : Int, (wrap64 ((l0.length : Int) - t191)) = j_ := ⟨_, rfl⟩
  replace H : (if 0 ≤ (ji4) then (if (ji4) ≤ (l0.length : Int) then ((gangwayref0_CopyCells.f k (l0.drop ((ji4) : Int).toNat)).bind fun t196 => ((gangwayref0_CopyBytes.f k l1_2).bind fun t199 => (if t196.length < 5864062014805 then (some (t196 ++ [t199])) else (none)))) else (none)) else (none)) = some r := by first | (rw [hji4] at H; exact H) | (simp only [hji4] at H ⊢; exact H)
  (try rw [hji4] at A3)
  have hji4w : (IntKind.i64.wrap ((l0.length : Int) - t191)) = ji4 := (i64_w _).trans hji4
  by_cases c5 : 0 ≤ (ji4)
  · rw [if_pos c5] at H
    have c5b0 := eq_true c5
    have c5b1 : decide (0 ≤ (ji4)) = true := decide_eq_true c5
    clear c5
    by_cases c6 : (ji4) ≤ (l0.length : Int)
    · rw [if_pos c6] at H
      have c6b0 := eq_true c6
      have c6b1 : decide ((ji4) ≤ (l0.length : Int)) = true := decide_eq_true c6
      clear c6
      obtain ⟨y192, hy192⟩ : ∃ y_ : List (List Int), y_ = (l0.drop ((ji4) : Int).toNat) := ⟨_, rfl⟩
      replace H : ((gangwayref0_CopyCells.f k y192).bind fun t196 => ((gangwayref0_CopyBytes.f k l1_2).bind fun t199 => (if t196.length < 5864062014805 then (some (t196 ++ [t199])) else (none)))) = some r := by first | (rw [hy192]; with_reducible exact H) | (have H2_ := (Option.bind_some _ _).symm.trans H; rw [hy192]; with_reducible exact H2_) | (have H2_ := (Option.bind_some _ _).symm.trans H; with_reducible exact H2_) | with_reducible exact H | (rw [hy192]; exact H) | exact H
      have Ny192 := Aside0.mk hy192
      clear hy192
      replace H := Option.bind_eq_some_iff.mp H
      obtain ⟨t196, A70, H⟩ := H
      replace H : ((gangwayref0_CopyBytes.f k l1_2).bind fun t199 => (if t196.length < 5864062014805 then (some (t196 ++ [t199])) else (none))) = some r := H
      have A7 := Aside0.mk A70
      clear A70
      replace H := Option.bind_eq_some_iff.mp H
      obtain ⟨t199, A80, H⟩ := H
      replace H : (if t196.length < 5864062014805 then (some (t196 ++ [t199])) else (none)) = some r := H
      have A8 := Aside0.mk A80
      clear A80
      by_cases c9 : t196.length < 5864062014805
      · rw [if_pos c9] at H
        have LMc9 := Aside0.mk c9
        clear c9
        obtain ⟨y202, hy202⟩ : ∃ y_ : List (List Int), y_ = (t196 ++ [t199]) := ⟨_, rfl⟩
        replace H : (some y202) = some r := by first | (rw [hy202]; with_reducible exact H) | (have H2_ := (Option.bind_some _ _).symm.trans H; rw [hy202]; with_reducible exact H2_) | (have H2_ := (Option.bind_some _ _).symm.trans H; with_reducible exact H2_) | with_reducible exact H | (rw [hy202]; exact H) | exact H
        have Ny202 := Aside0.mk hy202
        clear hy202
        obtain rfl := Option.some.inj H
        go_enter Try.func42, Try.ntmps42
        try go_wp2_with (first | ((with_reducible refine gate_dst (N := 3) rfl ?_); refine box_event ?hg (N := 3) ?hd (cs := #[.int .i64 a1_0, .int .i64 a1_1, .slice A1_2 l1_2.length c1_2, .slice A1_3 l1_3.length c1_3]) (t := 65) ?hr ?_; (case hd => rfl); (case hg => rfl); (case hr => first | (go_simp; done) | (go_simp; rfl)); intro gb190 hg w10 hbox hb; have n0_ := Aside0.mk (below_step (by repeat (first | (with_reducible first | exact HB.out | apply below_alloc | apply pw_below_drewN | apply below_drew1) | exact HB.out)) hb); have n1_ := Aside0.mk (hbox); have n2_ := Aside0.mk ((by rw [hg]; exact (below_size (by repeat (first | (with_reducible first | exact HB.out | apply below_alloc | apply pw_below_drewN | apply below_drew1) | exact HB.out))) : w.heap.size ≤ gb190)); have n3_ := Aside0.mk ((by rw [hg]; exact (below_size (by repeat (first | (with_reducible first | exact HB.out | apply below_alloc | apply pw_below_drewN | apply below_drew1) | exact HB.out))) : w.heap.size ≤ gb190)); clear HB; have HB := n0_; have BK190 := n1_; have GW190 := n2_; have GE190 := n3_; clear n0_ n1_ n2_ n3_; clear hb hbox hg; have hcz11_0 : w10.cell? ⟨gb190, 0, none⟩ = some (.int .i64 a1_0) := (blk_cell BK190.out 0).trans rfl; have hcz11_1 : w10.cell? ⟨gb190, 1, none⟩ = some (.int .i64 a1_1) := (blk_cell BK190.out 1).trans rfl; have hcz11_2 : w10.cell? ⟨gb190, 2, none⟩ = some (.slice A1_2 l1_2.length c1_2) := (blk_cell BK190.out 2).trans rfl; have hcz11_3 : w10.cell? ⟨gb190, 3, none⟩ = some (.slice A1_3 l1_3.length c1_3) := (blk_cell BK190.out 3).trans rfl; have hfz11_0 := blk_frozen BK190.out 0; have hfz11_1 := blk_frozen BK190.out 1; have hfz11_2 := blk_frozen BK190.out 2; have hfz11_3 := blk_frozen BK190.out 3) | ((with_reducible refine gate_callee (f := 11) rfl ?_); refine goesL_ (some 11) rfl rfl Try.func11 (by kernel_rfl) rfl #[.int .i64 a1_1, .int .i64 (wrap64 ((l0.length : Int) + 1))] rfl (by (try simp only [List.map_toArray, List.map_cons, List.map_nil]); first | done | rfl | (simp only [List.length_drop, List.length_take]; rfl)) ?_; (with_reducible refine (gangwaylaw0_Within.calls a1_1 (wrap64 ((l0.length : Int) + 1)) t191 _ A3.out).mono ?_); rintro e w' ⟨rfl, ⟨nd, rfl⟩⟩; refine ⟨_, rfl, ?_⟩))
        (try (rw [drewN_self w10]; generalize hq_ : World.drewN w10 _ = w10; have n0_ : Aside0 (w10.heap[gb190]? = some (.cells #[.int .i64 a1_0, .int .i64 a1_1, .slice A1_2 l1_2.length c1_2, .slice A1_3 l1_3.length c1_3] 65 (0, 0))) := ⟨by rw [← hq_]; exact (by (with_reducible repeat (first | refine blk_drewN ?_ _ | refine blk_drew ?_ | refine blk_alloc ?_ _)); exact BK190.out)⟩; have n1_ : Aside0 (Below w.heap.size w w10) := ⟨by rw [← hq_]; exact (by repeat (first | (with_reducible first | exact HB.out | apply below_alloc | apply pw_below_drewN | apply below_drew1 | refine below_set ?_ GE190.out) | exact HB.out))⟩; clear BK190 HB hq_; have BK190 := n0_; have HB := n1_; clear n0_ n1_))
        have n0_ := Aside0.mk (blk_drew BK190.out)
        have n1_ := Aside0.mk (below_drew1 HB.out)
        clear BK190
        clear HB
        have BK190 := n0_
        have HB := n1_
        clear n0_ n1_
        have q13 : ((ji4) : Int) ≤ ((l0.length : Int) : Int) := of_decide_eq_true (by first | (with_reducible assumption) | assumption)
        obtain ⟨i013, hi013, _, hsz13, _⟩ := info_parts info30
        have hroom13 : l0.length ≤ c0 := HC0.out
        have hC13 : Kd.C (Kd.slice 5 (Kd.int .u8)) _ A0 l0.length l0 := HR0.out
        have q013 : (0 : Int) ≤ ((ji4) : Int) := of_decide_eq_true (by first | (with_reducible assumption) | assumption)
        have hcut13 := cut_from (P := Try.prog) 63 30 .i64 Try.underlying63 hi013 1 hsz13 A0 l0.length c0 (ji4) q013 q13
        have hr13 := Kd.C_drop (m := ((ji4) : Int).toNat) (c := c0) hC13 (by omega) hroom13
        obtain ⟨A13, hA13⟩ : ∃ A1, A1 = (if c0 = ((ji4) : Int).toNat then A0 else (A0 : Option Addr).map (·.add (((ji4) : Int).toNat * 1))) := ⟨_, rfl⟩
        obtain ⟨c13, hc13⟩ : ∃ c1, c1 = c0 - ((ji4) : Int).toNat := ⟨_, rfl⟩
        have hy13 : y192.length = l0.length - ((ji4) : Int).toNat := (by rw [Ny192.out, List.length_drop] <;> omega)
        rw [show (l0).drop ((ji4) : Int).toNat = y192 from Ny192.out.symm] at hr13
        replace hr13 : Kd.C (Kd.slice 5 (Kd.int .u8)) _ A13 y192.length y192 := (by rw [hA13]; exact hr13)
        rw [← hy13, ← hA13, ← hc13] at hcut13
        have HR195 := Aside0.mk hr13
        have HC195 := Aside0.mk (show y192.length ≤ c13 from by rw [hy13, hc13]; exact Nat.sub_le_sub_right hroom13 _)
        clear hr13 hC13 hroom13 hi013 hsz13 hc13
        have KY13 := Aside0.mk hy13
        have KA13 := Aside0.mk hA13
        clear hy13 hA13
        replace q13 := eq_true q13
        refine start_ (n := 13) (S := fun w' => w'.cell? ⟨gb190, 0, none⟩ = some (.int .i64 a1_0) ∧ w'.cell? ⟨gb190, 1, none⟩ = some (.int .i64 a1_1) ∧ w'.cell? ⟨gb190, 2, none⟩ = some (.slice A1_2 l1_2.length c1_2) ∧ w'.cell? ⟨gb190, 3, none⟩ = some (.slice A1_3 l1_3.length c1_3)) (ds := []) #[false, false, false, false, false, false, false, false, false, false, false, false, false] (by kernel_rfl) rfl rfl ⟨(blk_cell BK190.out 0).trans rfl, (blk_cell BK190.out 1).trans rfl, (blk_cell BK190.out 2).trans rfl, (blk_cell BK190.out 3).trans rfl⟩ (fun hHeld => ?_); refine with_tabW gangwaylaw12_replaced.tab2 gangwaylaw12_replaced.bits2 (fun HT_ HW_ => ?_)
        generalize w10.drew = w12 at BK190 HB HR195 hHeld ⊢
        refine pure_ (i := 0) (N := some 12) (v := ?_) (a' := ?_) #[true, false, false, false, false, false, false, false, false, false, false, false, false] rfl rfl (any_of HT_.out (by kernel_rfl)) (fun _ _ _ h => h) (Or.inl ⟨by rfl, ?_⟩) ?_ ?_
        rotate_left
        · intro w'
          go_simp
          with_reducible rfl
        rotate_left
        · simp only [Act.put, List.setIfInBounds_toArray, List.set_cons_zero, List.set_cons_succ, i64_w, i32_w]
          rfl
        refine pure_ (i := 1) (N := some 13) (v := ?_) (a' := ?_) #[true, true, false, false, false, false, false, false, false, false, false, false, false] rfl rfl (any_of HT_.out (by kernel_rfl)) (fun _ _ _ h => h) (Or.inl ⟨by rfl, ?_⟩) ?_ ?_
        rotate_left
        · intro w'
          go_simp
          with_reducible rfl
        rotate_left
        · simp only [Act.put, List.setIfInBounds_toArray, List.set_cons_zero, List.set_cons_succ, i64_w, i32_w]
          rfl
        refine pure_ (i := 2) (N := some 14) (v := ?_) (a' := ?_) #[true, true, true, false, false, false, false, false, false, false, false, false, false] rfl rfl (any_of HT_.out (by kernel_rfl)) (fun _ _ _ h => h) (Or.inl ⟨by rfl, ?_⟩) ?_ ?_
        rotate_left
        · intro w'
          go_simp
          with_reducible rfl
        rotate_left
        · simp only [Act.put, List.setIfInBounds_toArray, List.set_cons_zero, List.set_cons_succ, i64_w, i32_w]
          rfl
        refine pure_ (i := 3) (N := some 15) (v := ?_) (a' := ?_) #[true, true, true, true, false, false, false, false, false, false, false, false, false] rfl rfl (any_of HT_.out (by kernel_rfl)) (fun _ _ _ h => h) (Or.inl ⟨by rfl, ?_⟩) ?_ ?_
        rotate_left
        · intro w'
          go_simp
          with_reducible rfl
        rotate_left
        · simp only [Act.put, List.setIfInBounds_toArray, List.set_cons_zero, List.set_cons_succ, i64_w, i32_w]
          rfl
        refine pure_ (i := 4) (N := some 16) (v := ?_) (a' := ?_) #[true, true, true, true, true, false, false, false, false, false, false, false, false] rfl rfl (any_of HT_.out (by kernel_rfl)) (fun _ _ _ h => h) (Or.inl ⟨by rfl, ?_⟩) ?_ ?_
        rotate_left
        · intro w'
          go_simp
          with_reducible rfl
        rotate_left
        · simp only [Act.put, List.setIfInBounds_toArray, List.set_cons_zero, List.set_cons_succ, i64_w, i32_w]
          rfl
        refine pure_ (i := 5) (N := some 17) (v := ?_) (a' := ?_) #[true, true, true, true, true, true, false, false, false, false, false, false, false] rfl rfl (any_of HT_.out (by kernel_rfl)) (fun _ _ _ h => h) (Or.inl ⟨by rfl, ?_⟩) ?_ ?_
        rotate_left
        · intro w'
          go_simp
          with_reducible rfl
        rotate_left
        · simp only [Act.put, List.setIfInBounds_toArray, List.set_cons_zero, List.set_cons_succ, i64_w, i32_w]
          rfl
        refine pure_ (i := 7) (N := some 19) (v := ?_) (a' := ?_) #[true, true, true, true, true, true, false, true, false, false, false, false, false] rfl rfl (any_of HT_.out (by kernel_rfl)) (fun _ _ _ h => h) (Or.inl ⟨by rfl, ?_⟩) ?_ ?_
        rotate_left
        · intro w'
          go_simp
          with_reducible rfl
        rotate_left
        · simp only [Act.put, List.setIfInBounds_toArray, List.set_cons_zero, List.set_cons_succ, i64_w, i32_w]
          rfl
        refine take_ (i := 8) (N := some 20) (v := ?_) (a' := ?_) #[true, true, true, true, true, true, false, true, true, false, false, false, false] rfl rfl (take_ofW HT_.out HW_.out (by kernel_rfl)) (fun _ _ _ h => h) (Or.inl ⟨by rfl, ?_⟩) hHeld ?_ ?_
        rotate_left
        · rintro w' ⟨s0, s1, s2, s3⟩
          go_simp
          with_reducible rfl
        rotate_left
        · simp only [Act.put, List.setIfInBounds_toArray, List.set_cons_zero, List.set_cons_succ, i64_w, i32_w]
          rfl
        refine one_ (i := 6) (N := some 18) #[true, true, true, true, true, true, true, true, true, false, false, false, false] rfl rfl (one_of HT_.out (by kernel_rfl)) (by decide) (fun K hK => ?_)
        refine goes_ Try.func39 (by kernel_rfl) rfl #[.slice A13 y192.length c13] (by rfl) rfl rfl (by (try simp only [List.map_toArray, List.map_cons, List.map_nil]); first | done | rfl | (simp only [List.length_drop, List.length_take]; rfl)) ?_
        with_reducible refine (gangwayref0_CopyCells.calls k _ _ y192 t196 _ ?side1 ?side2 A7.out).mono ?_
        (case side1 => repeat (first | exact (Kd.C_below HR195.out HB.out) | (with_reducible refine Kd.C_alloc ?_ _) | (with_reducible refine Kd.C_drewN ?_ _) | (with_reducible refine Kd.C_drew ?_)))
        (case side2 => exact HC195.out)
        rintro e w14 ⟨v197, rfl, ho0, hb⟩
        refine ⟨_, rfl, ?_⟩
        have n0_ := Aside0.mk (Kd.S_lower ho0 (below_size (by repeat (first | (with_reducible first | exact HB.out | apply below_alloc | apply pw_below_drewN | apply below_drew1 | refine below_set ?_ GE190.out) | exact HB.out))))
        have n1_ := Aside0.mk (blk_below (g := gb190) (o := .cells #[.int .i64 a1_0, .int .i64 a1_1, .slice A1_2 l1_2.length c1_2, .slice A1_3 l1_3.length c1_3] 65 (0, 0)) (by (with_reducible repeat (first | refine blk_drewN ?_ _ | refine blk_drew ?_ | refine blk_alloc ?_ _)); exact BK190.out) hb)
        have n2_ := Aside0.mk (below_step (by repeat (first | (with_reducible first | exact HB.out | apply below_alloc | apply pw_below_drewN | apply below_drew1 | refine below_set ?_ GE190.out) | exact HB.out)) hb)
        clear BK190
        clear HB
        have HO198 := n0_
        have BK190 := n1_
        have HB := n2_
        clear n0_ n1_ n2_
        (try clear hb)
        (try clear hb2)
        (try clear hk)
        (try clear hi)
        (try clear ho0)
        refine hK.out _ _ ⟨(blk_cell BK190.out 0).trans rfl, (blk_cell BK190.out 1).trans rfl, (blk_cell BK190.out 2).trans rfl, (blk_cell BK190.out 3).trans rfl⟩ (fun hHeld => ?_)
        clear hK K
        refine norm_ (a' := ?_) ?_ ?_
        rotate_left
        · show Act.put _ (some 18) _ = _
          simp only [Act.put, List.setIfInBounds_toArray, List.set_cons_zero, List.set_cons_succ, i64_w, i32_w]
          rfl
        refine one_ (i := 9) (N := some 21) #[true, true, true, true, true, true, true, true, true, true, false, false, false] rfl rfl (one_of HT_.out (by kernel_rfl)) (by decide) (fun K hK => ?_)
        refine goes_ Try.func20 (by kernel_rfl) rfl #[.slice A1_2 l1_2.length c1_2] (by rfl) rfl rfl (by (try simp only [List.map_toArray, List.map_cons, List.map_nil]); first | done | rfl | (simp only [List.length_drop, List.length_take]; rfl)) ?_
        with_reducible refine (gangwayref0_CopyBytes.calls k _ _ l1_2 t199 _ ?side1 ?side2 A8.out).mono ?_
        (case side1 => repeat (first | exact (Kd.C_below HR1_2.out HB.out) | (with_reducible refine Kd.C_alloc ?_ _) | (with_reducible refine Kd.C_drewN ?_ _) | (with_reducible refine Kd.C_drew ?_)))
        (case side2 => exact HC1_2.out)
        rintro e w15 ⟨v200, rfl, ho0, hb⟩
        refine ⟨_, rfl, ?_⟩
        have n0_ := Aside0.mk (Kd.S_elder' (by (with_reducible repeat (first | apply Kd.S_alloc | apply Kd.S_drewN | apply Kd.S_drew)); exact HO198.out) (Kd.R_base ho0) hb)
        have n1_ := Aside0.mk (Kd.R_lower ho0 (below_size (by repeat (first | (with_reducible first | exact HB.out | apply below_alloc | apply pw_below_drewN | apply below_drew1 | refine below_set ?_ GE190.out) | exact HB.out))))
        have n2_ := Aside0.mk (blk_below (g := gb190) (o := .cells #[.int .i64 a1_0, .int .i64 a1_1, .slice A1_2 l1_2.length c1_2, .slice A1_3 l1_3.length c1_3] 65 (0, 0)) (by (with_reducible repeat (first | refine blk_drewN ?_ _ | refine blk_drew ?_ | refine blk_alloc ?_ _)); exact BK190.out) hb)
        have n3_ := Aside0.mk (below_step (by repeat (first | (with_reducible first | exact HB.out | apply below_alloc | apply pw_below_drewN | apply below_drew1 | refine below_set ?_ GE190.out) | exact HB.out)) hb)
        clear HO198
        clear BK190
        clear HB
        have HO198 := n0_
        have HO201 := n1_
        have BK190 := n2_
        have HB := n3_
        clear n0_ n1_ n2_ n3_
        (try clear hb)
        (try clear hb2)
        (try clear hk)
        (try clear hi)
        (try clear ho0)
        obtain ⟨Ao17, co17, eo17⟩ := Kd.R_slice HO201.out
        (first | subst eo17 | (injection eo17 with f1_ f2_ f3_; have f4_ := f1_.symm; have f5_ := f3_.symm; clear f1_ f2_ f3_; subst f4_; subst f5_))
        refine hK.out _ _ ⟨(blk_cell BK190.out 0).trans rfl, (blk_cell BK190.out 1).trans rfl, (blk_cell BK190.out 2).trans rfl, (blk_cell BK190.out 3).trans rfl⟩ (fun hHeld => ?_)
        clear hK K
        refine norm_ (a' := ?_) ?_ ?_
        rotate_left
        · show Act.put _ (some 21) _ = _
          simp only [Act.put, List.setIfInBounds_toArray, List.set_cons_zero, List.set_cons_succ, i64_w, i32_w]
          rfl
        refine one_ (i := 10) (N := some 22) #[true, true, true, true, true, true, true, true, true, true, true, false, false] rfl rfl (one_of HT_.out (by kernel_rfl)) (by decide) (fun K hK => ?_)
        refine value_ (w1 := ?_) (v := ?_) (by rfl) rfl ?_ ?_
        rotate_left 2
        · go_simp
          constructor
          · rfl
          · rfl
        refine hK.out _ _ ⟨(blk_cell (blk_alloc BK190.out _) 0).trans rfl, (blk_cell (blk_alloc BK190.out _) 1).trans rfl, (blk_cell (blk_alloc BK190.out _) 2).trans rfl, (blk_cell (blk_alloc BK190.out _) 3).trans rfl⟩ (fun hHeld => ?_)
        clear hK K
        refine norm_ (a' := ?_) ?_ ?_
        rotate_left
        · show Act.put _ (some 22) _ = _
          simp only [Act.put, List.setIfInBounds_toArray, List.set_cons_zero, List.set_cons_succ, i64_w, i32_w]
          rfl
        refine one_ (i := 11) (N := some 23) #[true, true, true, true, true, true, true, true, true, true, true, true, false] rfl rfl (one_of HT_.out (by kernel_rfl)) (by decide) (fun K hK => ?_)
        refine Kd.S_append_step (Kd.slice 5 (Kd.int .u8)) (w0 := w) w.heap.size (by rfl) (.tmp 18) (.tmp 22) 63 30 (.slice none 0 0) 24 rfl Try.underlying63 info30 rfl (by decide) (by omega) v197 t196 t199 [.slice Ao17 t199.length co17] (fun _ => True) (fun k_ => some k_ = (.slice Ao17 t199.length co17 : Value).ownBlock) rfl rfl ?aP (fun k_ hk_ => ((Kd.R_mono (ok' := fun k_ => ((fun _ => True)) k_ ∧ some k_ ≠ (v197 : Value).ownBlock) (Kd.R_apart' (HO201.out) (Kd.S_typed HO198.out) (by decide)) (fun k_ hk => ⟨trivial, hk.2⟩))).1 k_ hk_.symm) ?aF ?aO ?aB ?aS ?aL ?_
        (case aP => exact Kd.M_row (Kd.R_mono (Kd.R_tight rfl (Kd.R_mono (ok' := fun k_ => ((fun _ => True)) k_ ∧ some k_ ≠ (v197 : Value).ownBlock) (Kd.R_apart' (HO201.out) (Kd.S_typed HO198.out) (by decide)) (fun k_ hk => ⟨trivial, hk.2⟩))) (fun _ h_ => h_)))
        (case aB => exact (by repeat (first | (with_reducible first | exact HB.out | apply below_alloc | apply pw_below_drewN | apply below_drew1 | refine below_set ?_ GE190.out) | exact HB.out)))
        (case aF => exact (fun _ _ => trivial))
        (case aO => exact (by (with_reducible repeat (first | apply Kd.S_alloc | apply Kd.S_drewN | apply Kd.S_drew)); exact Kd.S_mono HO198.out (fun k_ hk => ⟨trivial, fun e_ => hk.2 e_⟩)))
        (case aS => exact (below_size (by repeat (first | (with_reducible first | exact HB.out | apply below_alloc | apply pw_below_drewN | apply below_drew1 | refine below_set ?_ GE190.out) | exact HB.out))))
        (case aL => have := LMc9.out; omega)
        intro v203 w16 ho hb hg hat
        rw [← Ny202.out] at ho
        have n0_ := Aside0.mk (blk_grown (g := gb190) (o := .cells #[.int .i64 a1_0, .int .i64 a1_1, .slice A1_2 l1_2.length c1_2, .slice A1_3 l1_3.length c1_3] 65 (0, 0)) (by (with_reducible repeat (first | refine blk_drewN ?_ _ | refine blk_drew ?_ | refine blk_alloc ?_ _)); exact BK190.out) hg (Kd.S_ne HO198.out BK190.out (by decide)))
        have n1_ := Aside0.mk (hb)
        have n2_ := Aside0.mk (ho)
        clear BK190
        clear HB
        clear HO198
        clear HO201
        have BK190 := n0_
        have HB := n1_
        have HO204 := n2_
        clear n0_ n1_ n2_
        clear ho hb hg hat
        refine hK.out _ _ ⟨(blk_cell BK190.out 0).trans rfl, (blk_cell BK190.out 1).trans rfl, (blk_cell BK190.out 2).trans rfl, (blk_cell BK190.out 3).trans rfl⟩ (fun hHeld => ?_)
        clear hK K
        refine norm_ (a' := ?_) ?_ ?_
        rotate_left
        · show Act.put _ (some 23) _ = _
          simp only [Act.put, List.setIfInBounds_toArray, List.set_cons_zero, List.set_cons_succ, i64_w, i32_w]
          rfl
        refine pure_ (i := 12) (N := some 4) (v := ?_) (a' := ?_) #[true, true, true, true, true, true, true, true, true, true, true, true, true] rfl rfl (any_of HT_.out (by kernel_rfl)) (fun _ _ _ h => h) (Or.inl ⟨by rfl, ?_⟩) ?_ ?_
        rotate_left
        · intro w'
          go_simp
          with_reducible rfl
        rotate_left
        · simp only [Act.put, List.setIfInBounds_toArray, List.set_cons_zero, List.set_cons_succ, i64_w, i32_w]
          rfl
        refine done_ (done_of HT_.out (by kernel_rfl)) ?_
        try go_wp2
        go_ret
        exact ⟨_, by first | rfl | (simp [errW_none, errW_some] <;> rfl) | (simp only [← hji4]; first | rfl | (simp [errW_none, errW_some] <;> rfl)) | (simp [*, errW_none, errW_some] <;> rfl), by (with_reducible repeat (first | apply Kd.S_alloc | apply Kd.S_drewN | apply Kd.S_drew)); exact HO204.out, by repeat (first | (with_reducible first | exact HB.out | apply below_alloc | apply pw_below_drewN | apply below_drew1 | refine below_set ?_ GE190.out) | exact HB.out)⟩
      · rw [if_neg c9] at H
        exact absurd H (by simp)
    · rw [if_neg c6] at H
      exact absurd H (by simp)
  · rw [if_neg c5] at H
    exact absurd H (by simp)

end Go.Proofs.Ytpkhpfgojhojaaa.PLg

namespace Go.Proofs.Ytpkhpfgojhojaaa.PLg
open Go.RowKit Go.Proofs.YtpkhpfgojhojaaaW.PrintWords Go.Proofs.YtpkhpfgojhojaaaW.PrintLast Go.Proofs.YtpkhpfgojhojaaaW.PrintMore
attribute [local go_sem] max2_int min2_int max_two min_two max_three min_three max_four min_four   -- for this text's walks alone
set_option linter.unusedVariables false
set_option linter.unusedSimpArgs false

-- NOT PRINTED: function 43 (log_Log_Replace)

/-! ### gangwaylaw12_size: function 64 -/
def gangwaylaw12_size.l0 : Nat → List (List Int) → Int → Int → Option (Int)
  | 0, _, _, _ => none
  | k + 1, x0, x3, x4 => if x4 < (x0.length : Int) then (if 0 ≤ x4 then (gangwaylaw12_size.l0 k x0 (wrap64 ((wrap64 (x3 + ((rd_L2 x0 x4).length : Int))) + 16)) (wrap64 (x4 + 1))) else (none)) else (some x3)
def gangwaylaw12_size.f (k : Nat) (l0 : List (List Int)) : Option (Int) := gangwaylaw12_size.l0 k l0 0 0
theorem gangwaylaw12_size.mono_l : ∀ k, (∀ y0 y1 y2, LeO (gangwaylaw12_size.l0 k y0 y1 y2) (gangwaylaw12_size.l0 (k + 1) y0 y1 y2))
  | 0 => fun _ _ _ r h => by simp [gangwaylaw12_size.l0] at h
  | k + 1 => by
    have ih0 := gangwaylaw12_size.mono_l k
    · intro y0 y1 y2
      unfold gangwaylaw12_size.l0
      repeat' first
      | (with_reducible exact ih0 _ _ _)
      | (with_reducible exact LeO.refl _)
      | (with_reducible exact LeO.none _)
      | (with_reducible refine LeO.ite ?_ ?_)
      | (with_reducible refine LeO.bind ?_ (fun _ => ?_))
      | exact ih0 _ _ _
      | exact LeO.none _
      | refine LeO.ite ?_ ?_
      | refine LeO.bind ?_ (fun _ => ?_)
theorem gangwaylaw12_size.mono : ∀ a0 k, LeO (gangwaylaw12_size.f k a0) (gangwaylaw12_size.f (k + 1) a0) := by
  intro a0 k
  have ih0 := gangwaylaw12_size.mono_l k
  unfold gangwaylaw12_size.f
  repeat' first
      | (with_reducible exact ih0 _ _ _)
      | (with_reducible exact LeO.refl _)
      | (with_reducible exact LeO.none _)
      | (with_reducible refine LeO.ite ?_ ?_)
      | (with_reducible refine LeO.bind ?_ (fun _ => ?_))
      | exact ih0 _ _ _
      | exact LeO.none _
      | refine LeO.ite ?_ ?_
      | refine LeO.bind ?_ (fun _ => ?_)
set_option maxHeartbeats 8000000 in
set_option maxRecDepth 100000 in
theorem gangwaylaw12_size.calls (k : Nat) (A0 : Option Addr) (c0 : Nat) (l0 : List (List Int)) (r : Int) (w : World) (hr0 : Kd.C (Kd.slice 5 (Kd.int .u8)) w A0 l0.length l0) (hc0 : l0.length ≤ c0) (h : gangwaylaw12_size.f k l0 = some r) :
    Calls Try.prog 64 #[.slice A0 l0.length c0] w fun e w' => e = .returned (.int .i64 r) ∧ Drawn0 w w' := by
  have HR0 := Aside0.mk hr0
  have HC0 := Aside0.mk hc0
  clear hr0 hc0
  have H : (gangwaylaw12_size.l0 k l0 0 0) = some r := h
  clear h
  have H' := Aside0.mk H
  clear H
  go_enter Try.func64, Try.ntmps64
  go_wp2
  go_loopg [3, 4] k (fun kq v3 v4 w' => ∃ (x3_1 : Int) (x4_1 : Int), v3 = .int .i64 x3_1 ∧ v4 = .int .i64 x4_1 ∧ Aside0 (gangwaylaw12_size.l0 kq l0 x3_1 x4_1 = some r) ∧ Aside0 (kq ≤ k) ∧ Drawn0 w w')
  case atStart => exact ⟨(0), (0), (by first | rfl | (simp; done) | (simp [*]; done)), (by first | rfl | (simp; done) | (simp [*]; done)), H', ⟨Nat.le_refl _⟩, by repeat (first | exact Drawn0.refl _ | apply Drawn0.step)⟩
  case round =>
    clear H'
    obtain ⟨x3_1, x4_1, rfl, rfl, HA, HK1, ⟨m1, rfl⟩⟩ := hrel
    cases gk with
    | zero => exact absurd HA.out (by simp [gangwaylaw12_size.l0])
    | succ k1 =>
      have H := HA.out
      clear HA
      simp only [gangwaylaw12_size.l0] at H
      by_cases c2 : x4_1 < (l0.length : Int)
      · rw [if_pos c2] at H
        have c2b0 : decide (x4_1 < (l0.length : Int)) = true := decide_eq_true c2
        clear c2
        by_cases c3 : 0 ≤ x4_1
        · rw [if_pos c3] at H
          have c3b0 : decide (0 ≤ x4_1) = true := decide_eq_true c3
          clear c3
          have H' := Aside0.mk H
          clear H
          have p205 : 0 ≤ (x4_1 : Int) := of_decide_eq_true (by first | (with_reducible assumption) | assumption)
          have q205 : x4_1 < (l0.length : Int) := of_decide_eq_true (by first | (with_reducible assumption) | assumption)
          obtain ⟨ad205, A205_0, c205_0, e205, hx205_0, hl205_0, hi205_0⟩ := at_L2 HR0.out x4_1 p205 q205
          cases e205
          have HR205_0 := Aside0.mk hi205_0
          have HC205_0 := Aside0.mk hl205_0
          clear hi205_0 hl205_0
          replace p205 := eq_true p205
          replace q205 := eq_true q205
          go_wp2
          go_roundg k1
          case measure => have := HK1.out; omega
          case rel => exact ⟨(wrap64 ((wrap64 (x3_1 + ((rd_L2 l0 x4_1).length : Int))) + 16)), (wrap64 (x4_1 + 1)), (by first | rfl | (simp; done) | (simp [*]; done)), (by first | rfl | (simp; done) | (simp [*]; done)), H', ⟨by have := HK1.out; omega⟩, by repeat (first | exact Drawn0.refl _ | apply Drawn0.step)⟩
        · rw [if_neg c3] at H
          exact absurd H (by simp)
      · rw [if_neg c2] at H
        have c2b0 : decide (x4_1 < (l0.length : Int)) = false := decide_eq_false c2
        clear c2
        obtain rfl := Option.some.inj H
        go_wp2
        go_ret
        exact ⟨by first | rfl | (simp; done) | (simp [*]; done), by repeat (first | exact Drawn0.refl _ | apply Drawn0.step)⟩

end Go.Proofs.Ytpkhpfgojhojaaa.PLg

namespace Go.Proofs.Ytpkhpfgojhojaaa.PLg
open Go.RowKit Go.Proofs.YtpkhpfgojhojaaaW.PrintWords Go.Proofs.YtpkhpfgojhojaaaW.PrintLast Go.Proofs.YtpkhpfgojhojaaaW.PrintMore
attribute [local go_sem] max2_int min2_int max_two min_two max_three min_three max_four min_four   -- for this text's walks alone
set_option linter.unusedVariables false
set_option linter.unusedSimpArgs false

/-! ### gangwaylaw12_may: function 44 -/
def gangwaylaw12_may.f (k : Nat) (l0 : List (List Int)) (a1 : Int) : Option (Bool) := (gangwaylaw12_size.f k l0).bind fun t206 => (some (decide (t206 > (wrap64 ((wrap64 (Int.tdiv (wrap64 (a1 * 64)) 3)) - 1024)))))
theorem gangwaylaw12_may.mono : ∀ a0 a1 k, LeO (gangwaylaw12_may.f k a0 a1) (gangwaylaw12_may.f (k + 1) a0 a1) := by
  intro a0 a1 k
  unfold gangwaylaw12_may.f
  repeat' first
      | (with_reducible exact gangwaylaw12_size.mono _ _)
      | (with_reducible exact LeO.refl _)
      | (with_reducible exact LeO.none _)
      | (with_reducible refine LeO.ite ?_ ?_)
      | (with_reducible refine LeO.bind ?_ (fun _ => ?_))
      | exact gangwaylaw12_size.mono _ _
      | exact LeO.none _
      | refine LeO.ite ?_ ?_
      | refine LeO.bind ?_ (fun _ => ?_)
set_option maxHeartbeats 8000000 in
set_option maxRecDepth 100000 in
theorem gangwaylaw12_may.calls (k : Nat) (A0 : Option Addr) (c0 : Nat) (l0 : List (List Int)) (a1 : Int) (r : Bool) (w : World) (hr0 : Kd.C (Kd.slice 5 (Kd.int .u8)) w A0 l0.length l0) (hc0 : l0.length ≤ c0) (h : gangwaylaw12_may.f k l0 a1 = some r) :
    Calls Try.prog 44 #[.slice A0 l0.length c0, .int .i64 a1] w fun e w' => e = .returned (.bool r) ∧ Drawn0 w w' := by
  have HR0 := Aside0.mk hr0
  have HC0 := Aside0.mk hc0
  clear hr0 hc0
  have H : ((gangwaylaw12_size.f k l0).bind fun t206 => (some (decide (t206 > (wrap64 ((wrap64 (Int.tdiv (wrap64 (a1 * 64)) 3)) - 1024)))))) = some r := h
  clear h
  replace H := Option.bind_eq_some_iff.mp H
  obtain ⟨t206, A30, H⟩ := H
  replace H : (some (decide (t206 > (wrap64 ((wrap64 (Int.tdiv (wrap64 (a1 * 64)) 3)) - 1024))))) = some r := H
  have A3 := Aside0.mk A30
  clear A30
  obtain rfl := Option.some.inj H
  go_enter Try.func44, Try.ntmps44
  go_wp2_with (first | ((with_reducible refine gate_callee (f := 64) rfl ?_); refine goesL_ (some 6) rfl rfl Try.func64 (by kernel_rfl) rfl #[.slice A0 l0.length c0] rfl (by (try simp only [List.map_toArray, List.map_cons, List.map_nil]); first | done | rfl | (simp only [List.length_drop, List.length_take]; rfl)) ?_; (with_reducible refine (gangwaylaw12_size.calls k _ _ l0 t206 _ ?side1 ?side2 A3.out).mono ?_); (case side1 => repeat (first | exact HR0.out | (with_reducible refine Kd.C_alloc ?_ _) | (with_reducible refine Kd.C_drewN ?_ _) | (with_reducible refine Kd.C_drew ?_))); (case side2 => exact HC0.out); rintro e w' ⟨rfl, ⟨nd, rfl⟩⟩; refine ⟨_, rfl, ?_⟩))
  go_ret
  exact ⟨by first | rfl | (simp; done) | (simp [*]; done), by repeat (first | exact Drawn0.refl _ | apply Drawn0.step)⟩

end Go.Proofs.Ytpkhpfgojhojaaa.PLg

namespace Go.Proofs.Ytpkhpfgojhojaaa.PLg
open Go.RowKit Go.Proofs.YtpkhpfgojhojaaaW.PrintWords Go.Proofs.YtpkhpfgojhojaaaW.PrintLast Go.Proofs.YtpkhpfgojhojaaaW.PrintMore
attribute [local go_sem] max2_int min2_int max_two min_two max_three min_three max_four min_four   -- for this text's walks alone
set_option linter.unusedVariables false
set_option linter.unusedSimpArgs false

/-! ### gangwaylaw12_among: function 45 -/
def gangwaylaw12_among.l0 : Nat → List (List (List Int)) → List (List Int) → Int → Option (Bool)
  | 0, _, _, _ => none
  | k + 1, x0, x1, x5 => if x5 < (x0.length : Int) then (if 0 ≤ x5 then ((gangwayref0_EqCells.f k (rd_L6 x0 x5) x1).bind fun t208 => (if t208 = true then (some true) else (gangwaylaw12_among.l0 k x0 x1 (wrap64 (x5 + 1))))) else (none)) else (some false)
def gangwaylaw12_among.f (k : Nat) (l0 : List (List (List Int))) (l1 : List (List Int)) : Option (Bool) := gangwaylaw12_among.l0 k l0 l1 0
theorem gangwaylaw12_among.mono_l : ∀ k, (∀ y0 y1 y2, LeO (gangwaylaw12_among.l0 k y0 y1 y2) (gangwaylaw12_among.l0 (k + 1) y0 y1 y2))
  | 0 => fun _ _ _ r h => by simp [gangwaylaw12_among.l0] at h
  | k + 1 => by
    have ih0 := gangwaylaw12_among.mono_l k
    · intro y0 y1 y2
      unfold gangwaylaw12_among.l0
      repeat' first
      | (with_reducible exact ih0 _ _ _)
      | (with_reducible exact gangwayref0_EqCells.mono _ _ _)
      | (with_reducible exact LeO.refl _)
      | (with_reducible exact LeO.none _)
      | (with_reducible refine LeO.ite ?_ ?_)
      | (with_reducible refine LeO.bind ?_ (fun _ => ?_))
      | exact ih0 _ _ _
      | exact gangwayref0_EqCells.mono _ _ _
      | exact LeO.none _
      | refine LeO.ite ?_ ?_
      | refine LeO.bind ?_ (fun _ => ?_)
theorem gangwaylaw12_among.mono : ∀ a0 a1 k, LeO (gangwaylaw12_among.f k a0 a1) (gangwaylaw12_among.f (k + 1) a0 a1) := by
  intro a0 a1 k
  have ih0 := gangwaylaw12_among.mono_l k
  unfold gangwaylaw12_among.f
  repeat' first
      | (with_reducible exact ih0 _ _ _)
      | (with_reducible exact gangwayref0_EqCells.mono _ _ _)
      | (with_reducible exact LeO.refl _)
      | (with_reducible exact LeO.none _)
      | (with_reducible refine LeO.ite ?_ ?_)
      | (with_reducible refine LeO.bind ?_ (fun _ => ?_))
      | exact ih0 _ _ _
      | exact gangwayref0_EqCells.mono _ _ _
      | exact LeO.none _
      | refine LeO.ite ?_ ?_
      | refine LeO.bind ?_ (fun _ => ?_)
set_option maxHeartbeats 8000000 in
set_option maxRecDepth 100000 in
theorem gangwaylaw12_among.calls (k : Nat) (A0 : Option Addr) (c0 : Nat) (l0 : List (List (List Int))) (A1 : Option Addr) (c1 : Nat) (l1 : List (List Int)) (r : Bool) (w : World) (hr0 : Kd.C (Kd.slice 30 (Kd.slice 5 (Kd.int .u8))) w A0 l0.length l0) (hc0 : l0.length ≤ c0) (hr1 : Kd.C (Kd.slice 5 (Kd.int .u8)) w A1 l1.length l1) (hc1 : l1.length ≤ c1) (h : gangwaylaw12_among.f k l0 l1 = some r) :
    Calls Try.prog 45 #[.slice A0 l0.length c0, .slice A1 l1.length c1] w fun e w' => e = .returned (.bool r) ∧ Drawn0 w w' := by
  have HR0 := Aside0.mk hr0
  have HC0 := Aside0.mk hc0
  clear hr0 hc0
  have HR1 := Aside0.mk hr1
  have HC1 := Aside0.mk hc1
  clear hr1 hc1
  have H : (gangwaylaw12_among.l0 k l0 l1 0) = some r := h
  clear h
  have H' := Aside0.mk H
  clear H
  go_enter Try.func45, Try.ntmps45
  go_wp2
  go_loopg [5] k (fun kq v5 w' => ∃ (x5_1 : Int), v5 = .int .i64 x5_1 ∧ Aside0 (gangwaylaw12_among.l0 kq l0 l1 x5_1 = some r) ∧ Aside0 (kq ≤ k) ∧ Drawn0 w w')
  case atStart => exact ⟨(0), (by first | rfl | (simp; done) | (simp [*]; done)), H', ⟨Nat.le_refl _⟩, by repeat (first | exact Drawn0.refl _ | apply Drawn0.step)⟩
  case round =>
    clear H'
    try clear c1
    try clear p2
    obtain ⟨x5_1, rfl, HA, HK1, ⟨m1, rfl⟩⟩ := hrel
    cases gk with
    | zero => exact absurd HA.out (by simp [gangwaylaw12_among.l0])
    | succ k1 =>
      have H := HA.out
      clear HA
      simp only [gangwaylaw12_among.l0] at H
      by_cases c3 : x5_1 < (l0.length : Int)
      · rw [if_pos c3] at H
        have c3b0 : decide (x5_1 < (l0.length : Int)) = true := decide_eq_true c3
        clear c3
        by_cases c4 : 0 ≤ x5_1
        · rw [if_pos c4] at H
          have c4b0 : decide (0 ≤ x5_1) = true := decide_eq_true c4
          clear c4
          replace H := Option.bind_eq_some_iff.mp H
          obtain ⟨t208, A50, H⟩ := H
          replace H : (if t208 = true then (some true) else (gangwaylaw12_among.l0 k1 l0 l1 (wrap64 (x5_1 + 1)))) = some r := H
          have A5 := Aside0.mk A50
          clear A50
          by_cases c6 : t208 = true
          · subst c6
            have H1 : (some true) = some r := by rw [if_pos rfl] at H; exact H
            clear H
            have H := H1
            clear H1
            obtain rfl := Option.some.inj H
            have p207 : 0 ≤ (x5_1 : Int) := of_decide_eq_true (by first | (with_reducible assumption) | assumption)
            have q207 : x5_1 < (l0.length : Int) := of_decide_eq_true (by first | (with_reducible assumption) | assumption)
            obtain ⟨ad207, A207_0, c207_0, e207, hx207_0, hl207_0, hi207_0⟩ := at_L6 HR0.out x5_1 p207 q207
            cases e207
            have HR207_0 := Aside0.mk hi207_0
            have HC207_0 := Aside0.mk hl207_0
            clear hi207_0 hl207_0
            replace p207 := eq_true p207
            replace q207 := eq_true q207
            go_wp2_with (first | ((with_reducible refine gate_callee (f := 36) rfl ?_); refine goesL_ (some 17) rfl rfl Try.func36 (by kernel_rfl) rfl #[.slice A207_0 (rd_L6 l0 x5_1).length c207_0, .slice A1 l1.length c1] rfl (by (try simp only [List.map_toArray, List.map_cons, List.map_nil]); first | done | rfl | (simp only [List.length_drop, List.length_take]; rfl)) ?_; (with_reducible refine (gangwayref0_EqCells.calls k1 _ _ (rd_L6 l0 x5_1) _ _ l1 true _ ?side1 ?side2 ?side3 ?side4 A5.out).mono ?_); (case side1 => repeat (first | exact HR207_0.out | (with_reducible refine Kd.C_alloc ?_ _) | (with_reducible refine Kd.C_drewN ?_ _) | (with_reducible refine Kd.C_drew ?_))); (case side2 => exact HC207_0.out); (case side3 => repeat (first | exact HR1.out | (with_reducible refine Kd.C_alloc ?_ _) | (with_reducible refine Kd.C_drewN ?_ _) | (with_reducible refine Kd.C_drew ?_))); (case side4 => exact HC1.out); rintro e w' ⟨rfl, ⟨nd, rfl⟩⟩; refine ⟨_, rfl, ?_⟩))
            go_ret
            exact ⟨by first | rfl | (simp; done) | (simp [*]; done), by repeat (first | exact Drawn0.refl _ | apply Drawn0.step)⟩
          · replace c6 := Bool.eq_false_iff.mpr c6
            subst c6
            have H1 : (gangwaylaw12_among.l0 k1 l0 l1 (wrap64 (x5_1 + 1))) = some r := by rw [if_neg (show ¬ (false = true) by decide)] at H; exact H
            clear H
            have H := H1
            clear H1
            have H' := Aside0.mk H
            clear H
            have p207 : 0 ≤ (x5_1 : Int) := of_decide_eq_true (by first | (with_reducible assumption) | assumption)
            have q207 : x5_1 < (l0.length : Int) := of_decide_eq_true (by first | (with_reducible assumption) | assumption)
            obtain ⟨ad207, A207_0, c207_0, e207, hx207_0, hl207_0, hi207_0⟩ := at_L6 HR0.out x5_1 p207 q207
            cases e207
            have HR207_0 := Aside0.mk hi207_0
            have HC207_0 := Aside0.mk hl207_0
            clear hi207_0 hl207_0
            replace p207 := eq_true p207
            replace q207 := eq_true q207
            go_wp2_with (first | ((with_reducible refine gate_callee (f := 36) rfl ?_); refine goesL_ (some 17) rfl rfl Try.func36 (by kernel_rfl) rfl #[.slice A207_0 (rd_L6 l0 x5_1).length c207_0, .slice A1 l1.length c1] rfl (by (try simp only [List.map_toArray, List.map_cons, List.map_nil]); first | done | rfl | (simp only [List.length_drop, List.length_take]; rfl)) ?_; (with_reducible refine (gangwayref0_EqCells.calls k1 _ _ (rd_L6 l0 x5_1) _ _ l1 false _ ?side1 ?side2 ?side3 ?side4 A5.out).mono ?_); (case side1 => repeat (first | exact HR207_0.out | (with_reducible refine Kd.C_alloc ?_ _) | (with_reducible refine Kd.C_drewN ?_ _) | (with_reducible refine Kd.C_drew ?_))); (case side2 => exact HC207_0.out); (case side3 => repeat (first | exact HR1.out | (with_reducible refine Kd.C_alloc ?_ _) | (with_reducible refine Kd.C_drewN ?_ _) | (with_reducible refine Kd.C_drew ?_))); (case side4 => exact HC1.out); rintro e w' ⟨rfl, ⟨nd, rfl⟩⟩; refine ⟨_, rfl, ?_⟩))
            go_roundg k1
            case measure => have := HK1.out; omega
            case rel => exact ⟨(wrap64 (x5_1 + 1)), (by first | rfl | (simp; done) | (simp [*]; done)), H', ⟨by have := HK1.out; omega⟩, by repeat (first | exact Drawn0.refl _ | apply Drawn0.step)⟩
        · rw [if_neg c4] at H
          exact absurd H (by simp)
      · rw [if_neg c3] at H
        have c3b0 : decide (x5_1 < (l0.length : Int)) = false := decide_eq_false c3
        clear c3
        obtain rfl := Option.some.inj H
        go_wp2
        go_ret
        exact ⟨by first | rfl | (simp; done) | (simp [*]; done), by repeat (first | exact Drawn0.refl _ | apply Drawn0.step)⟩

end Go.Proofs.Ytpkhpfgojhojaaa.PLg

namespace Go.Proofs.Ytpkhpfgojhojaaa.PLg
open Go.RowKit Go.Proofs.YtpkhpfgojhojaaaW.PrintWords Go.Proofs.YtpkhpfgojhojaaaW.PrintLast Go.Proofs.YtpkhpfgojhojaaaW.PrintMore
attribute [local go_sem] max2_int min2_int max_two min_two max_three min_three max_four min_four
set_option linter.unusedVariables false
set_option linter.unusedSimpArgs false
-- IMPORT: Derived.Test.@N@WOwn
-- IMPORT: Derived.Test.@N@DLcells
-- IMPORT: Derived.Test.@N@DLastspure
/-! ### A log that is on and whole: what each call makes of it. -/
def Good (L : Nat) (y : Dk) (nr : Int) (rs0 rs : List (List Int)) (fr : Bool) : Prop :=
  y.off = false ∧ y.S = y.E ∧ y.E.length = L ∧ Holds y.E nr rs0 ∧ (fr = true → rs0 = rs) ∧ layLen rs ≤ areaOf L * 64
def SizeOk (L : Nat) : Prop := L % 64 = 0 ∧ 128 ≤ L ∧ L ≤ 1000000
theorem area_le {L : Nat} (h : SizeOk L) : areaOf L * 64 ≤ 500000 := by
  unfold areaOf
  have := h.2.2
  omega
theorem wrL_len : ∀ (k : Nat) (y : Dk) (i : Int) (b : List Int), y.E.length % 64 = 0 → (wrL k y i b).1.E.length = y.E.length
  | 0, y, i, b, h => rfl
  | k + 1, y, i, b, h => by
    rw [wrL]
    split
    · rfl
    · have hw := write_len y i (padTo (b.take 64)) h
      split
      · exact hw
      · rw [wrL_len k _ _ _ (by rw [hw]; exact h), hw]
theorem flush_len (y : Dk) : y.flush.1.E = y.E := by
  unfold Dk.flush
  split
  · rfl
  · split <;> rfl
theorem syncY_len (x : Lg) (b hd : List Int) (h : x.y.E.length % 64 = 0) : ∀ i, (syncY x b hd i).1.E.length = x.y.E.length := by
  have h1 := wrL_len (b.length + 1) x.y (x.from (x.nr + 1) : Nat) b h
  have h2 : ((wrL (b.length + 1) x.y (x.from (x.nr + 1) : Nat) b).1.flush).1.E.length = x.y.E.length := by rw [flush_len, h1]
  have h3 : (((wrL (b.length + 1) x.y (x.from (x.nr + 1) : Nat) b).1.flush).1.write ((x.nr + 1) % 2) hd).1.E.length = x.y.E.length := by rw [write_len _ _ _ (by rw [h2]; exact h), h2]
  intro i
  match i with
  | 0 => rfl
  | 1 => exact h1
  | 2 => exact h2
  | 3 => exact h3
  | n + 4 => show ((((wrL (b.length + 1) x.y (x.from (x.nr + 1) : Nat) b).1.flush).1.write ((x.nr + 1) % 2) hd).1.flush).1.E.length = _; rw [flush_len, h3]
theorem syncRun_rs (x : Lg) (b hd : List Int) (h : x.y.E.length % 64 = 0) : ∀ k i, (syncRun x b hd k i).1.rs = x.rs ∧ (syncRun x b hd k i).1.y.E.length = x.y.E.length
  | 0, i => ⟨rfl, syncY_len x b hd h 4⟩
  | k + 1, i => by
    rw [syncRun]
    split
    · exact ⟨rfl, syncY_len x b hd h (i + 1)⟩
    · exact syncRun_rs x b hd h k (i + 1)
theorem sync_rs (x : Lg) (b hd : List Int) (h : x.y.E.length % 64 = 0) : (x.sync b hd).1.rs = x.rs ∧ (x.sync b hd).1.y.E.length = x.y.E.length := by
  unfold Lg.sync
  split
  · exact ⟨rfl, rfl⟩
  · split
    · exact ⟨rfl, rfl⟩
    · exact syncRun_rs x b hd h 4 0
theorem lg_SyncG (L : Nat) (hL : SizeOk L) (g : Nat) (w : World) (bd : Nat) (ok : Nat → Prop) (d : Nat) (y : Dk) (nr : Int) (rs0 rs : List (List Int)) (fr : Bool) (h : LgAt w bd ok g d ⟨y, nr, rs, fr⟩) (hbd : bd ≤ w.heap.size) (hG : Good L y nr rs0 rs fr) (hn : nr < 1000000) :
    Calls Try.prog 38 #[.pointer (some ⟨g, 0, none⟩)] w fun e w' => ∃ (c : Int) (y' : Dk) (nr' : Int) (fr' : Bool), e = .returned (.int .i64 c) ∧ LgAt w' bd (fun k => ok k ∨ w.heap.size ≤ k) g d ⟨y', nr', rs, fr'⟩ ∧ Kept w w' ok ∧ Below bd w w' ∧
      ((c = 0 ∧ Good L y' nr' rs rs fr' ∧ y'.tr = y.tr ∧ nr' ≤ nr + 1) ∨ (c = 103 ∧ y'.E.length = L ∧ (∃ n, y.tr n = true) ∧ ∀ C, Mix y'.S y'.E C → ∃ n, Holds C n rs0 ∨ Holds C n rs)) := by
  obtain ⟨ho, hSE, hEl, hH, hfr, hll⟩ := hG
  have ha := area_le hL
  have hn0 : 0 ≤ nr := hH.1
  obtain ⟨k2, hd, hhd, hdl, hha⟩ := head_ex (nr + 1) (layLen rs : Int) (by omega) (by omega) (by omega) (by omega)
  refine (log_Log_Sync.walk k2 g w bd ok d ⟨y, nr, rs, fr⟩ (layP rs) hd h hbd (lays rs (by omega)) ⟨hn0, by show nr < _; omega⟩ (by rw [length_layP]; exact hhd)).mono ?_
  rintro e' w' ⟨rfl, hlg, hk, hb⟩
  obtain ⟨hr, hlen⟩ := sync_rs ⟨y, nr, rs, fr⟩ (layP rs) hd (by show y.E.length % 64 = 0; rw [hEl]; exact hL.1)
  obtain ⟨x', hx'⟩ : ∃ x', x' = (⟨y, nr, rs, fr⟩ : Lg).sync (layP rs) hd := ⟨_, rfl⟩
  rw [← hx'] at hlg hr hlen ⊢
  obtain ⟨⟨y', nr', rs', fr'⟩, c⟩ := x'
  obtain rfl : rs' = rs := hr
  refine ⟨c, y', nr', fr', rfl, hlg, hk, hb, ?_⟩
  by_cases hf : fr = true
  · subst hf
    have hs : (⟨y, nr, rs', true⟩ : Lg).sync (layP rs') hd = (⟨y, nr, rs', true⟩, 0) := by
      unfold Lg.sync
      rw [if_neg (by show ¬ y.off = true; rw [ho]; decide), if_pos rfl]
    rw [hs] at hx'
    injection hx' with h1 h2
    injection h1 with h1 h3 _ h4
    subst h1 h2 h3 h4
    obtain rfl := hfr rfl
    exact .inl ⟨rfl, ⟨ho, hSE, hEl, hH, fun _ => rfl, hll⟩, rfl, by omega⟩
  · have hf' : fr = false := by simpa using hf
    rcases sync_spec ⟨y, nr, rs', fr⟩ (layP rs') hd rs0 ho hf' (by show y.E.length % 64 = 0; rw [hEl]; exact hL.1) (by show 128 ≤ y.E.length; rw [hEl]; exact hL.2.1) hSE hH rfl (by show layLen rs' ≤ areaOf y.E.length * 64; rw [hEl]; exact hll) (by show layLen rs' ≤ 1000000; omega) hha hdl with q | q
    · obtain ⟨q0, z, q1, q2, q3, q4, q5, q6⟩ := q
      rw [← hx'] at q0 q1
      injection q1 with q1 q7 _ q8
      subst q1 q7 q8
      exact .inl ⟨q0, ⟨q2, q3, q4.trans hEl, q6, fun _ => rfl, hll⟩, q5, Int.le_refl _⟩
    · refine .inr ⟨?_, hlen.trans hEl, ?_, ?_⟩
      · rw [← hx'] at q; exact q.1
      · by_cases hq : ∃ n, y.tr n = true
        · exact hq
        · exact absurd q.1 (sync_quiet _ _ _ ho (fun n => by
            have : ¬ y.tr n = true := fun h => hq ⟨n, h⟩
            simpa using this))
      · rw [← hx'] at q
        intro C hC
        rcases q.2 C hC with h | h
        · exact ⟨_, .inl h⟩
        · exact ⟨_, .inr h⟩
theorem become_good {L : Nat} {y : Dk} {nr : Int} {rs0 rs : List (List Int)} {fr : Bool} (hG : Good L y nr rs0 rs fr) (q : List (List Int)) :
    ∃ (c : Int) (rs' : List (List Int)) (fr' : Bool), (⟨y, nr, rs, fr⟩ : Lg).become q = (⟨y, nr, rs', fr'⟩, c) ∧ ((c = 0 ∧ rs' = q ∧ Good L y nr rs0 q fr') ∨ (c = 51 ∧ rs' = rs ∧ fr' = fr ∧ areaOf L * 64 < layLen q)) := by
  obtain ⟨ho, hSE, hEl, hH, hfr, hll⟩ := hG
  have ha : (⟨y, nr, rs, fr⟩ : Lg).area = areaOf L := by show areaOf y.E.length = _; rw [hEl]
  unfold Lg.become
  rw [if_neg (by show ¬ y.off = true; rw [ho]; decide), ha]
  by_cases hq : layLen q > areaOf L * 64
  · rw [if_pos hq]
    exact ⟨51, rs, fr, rfl, .inr ⟨rfl, rfl, rfl, hq⟩⟩
  · rw [if_neg hq]
    exact ⟨0, q, false, rfl, .inl ⟨rfl, rfl, ho, hSE, hEl, hH, fun h => (by cases h), by omega⟩⟩
theorem lg_AppendG (L : Nat) (hL : SizeOk L) (g : Nat) (A : Option Addr) (c : Nat) (r : List Int) (w : World) (bd : Nat) (ok : Nat → Prop) (d : Nat) (y : Dk) (nr : Int) (rs0 rs : List (List Int)) (fr : Bool) (h : LgAt w bd ok g d ⟨y, nr, rs, fr⟩) (hbd : bd ≤ w.heap.size) (hG : Good L y nr rs0 rs fr) (hC : (Kd.int .u8).C w A r.length r) (hc : r.length ≤ c) (hr : r.length ≤ 100000) :
    Calls Try.prog 37 #[.pointer (some ⟨g, 0, none⟩), .slice A r.length c] w fun e w' => ∃ (cd : Int) (rs' : List (List Int)) (fr' : Bool), e = .returned (.int .i64 cd) ∧ LgAt w' bd (fun k => ok k ∨ w.heap.size ≤ k) g d ⟨y, nr, rs', fr'⟩ ∧ Kept w w' (fun k => k = g) ∧ Below bd w w' ∧
      ((cd = 0 ∧ rs' = rs ++ [r] ∧ Good L y nr rs0 (rs ++ [r]) fr') ∨ (cd = 51 ∧ rs' = rs ∧ fr' = fr ∧ areaOf L * 64 < layLen (rs ++ [r]))) := by
  have ha := area_le hL
  have hll := hG.2.2.2.2.2
  have hcn := layLen_count rs
  obtain ⟨cd, rs', fr', hbc, hcase⟩ := become_good hG (rs ++ [r])
  refine (lg_Append g A c r w bd ok d ⟨y, nr, rs, fr⟩ (layP (rs ++ [r])) h hbd hC hc (by show Lays (rs ++ [r]) _; exact lays _ (by rw [layLen_snoc]; omega)) (by show rs.length ≤ 1000000; omega) (by omega)).mono ?_
  rintro e' w' ⟨he, hlg, hk, hb⟩
  rw [hbc] at he hlg
  exact ⟨cd, rs', fr', he, hlg, hk, hb, hcase⟩
theorem lg_ReplaceG (L : Nat) (hL : SizeOk L) (g : Nat) (A : Option Addr) (c : Nat) (q : List (List Int)) (w : World) (bd : Nat) (ok : Nat → Prop) (d : Nat) (y : Dk) (nr : Int) (rs0 rs : List (List Int)) (fr : Bool) (h : LgAt w bd ok g d ⟨y, nr, rs, fr⟩) (hbd : bd ≤ w.heap.size) (hG : Good L y nr rs0 rs fr) (hC : Kd.C (Kd.slice 5 (Kd.int .u8)) w A q.length q) (hc : q.length ≤ c) (hq : layLen q ≤ 1000000) :
    Calls Try.prog 43 #[.pointer (some ⟨g, 0, none⟩), .slice A q.length c] w fun e w' => ∃ (cd : Int) (rs' : List (List Int)) (fr' : Bool), e = .returned (.int .i64 cd) ∧ LgAt w' bd (fun k => ok k ∨ w.heap.size ≤ k) g d ⟨y, nr, rs', fr'⟩ ∧ Kept w w' (fun k => k = g) ∧ Below bd w w' ∧
      ((cd = 0 ∧ rs' = q ∧ Good L y nr rs0 q fr') ∨ (cd = 51 ∧ rs' = rs ∧ fr' = fr ∧ areaOf L * 64 < layLen q)) := by
  obtain ⟨cd, rs', fr', hbc, hcase⟩ := become_good hG q
  refine (lg_Replace g A c q w bd ok d ⟨y, nr, rs, fr⟩ (layP q) h hbd hC hc (lays q hq)).mono ?_
  rintro e' w' ⟨he, hlg, hk, hb⟩
  rw [hbc] at he hlg
  exact ⟨cd, rs', fr', he, hlg, hk, hb, hcase⟩

end Go.Proofs.Ytpkhpfgojhojaaa.PLg

namespace Go.Proofs.Ytpkhpfgojhojaaa.PLg
open Go.RowKit Go.Proofs.YtpkhpfgojhojaaaW.PrintWords Go.Proofs.YtpkhpfgojhojaaaW.PrintLast Go.Proofs.YtpkhpfgojhojaaaW.PrintMore
attribute [local go_sem] max2_int min2_int max_two min_two max_three min_three max_four min_four
set_option linter.unusedVariables false
set_option linter.unusedSimpArgs false
-- IMPORT: Derived.Test.@N@WOwn
-- IMPORT: Derived.Test.@N@DLgood
/-! ### The plain laws of law 12: may, among, replaced, heavy. -/
theorem size_l0 (rs : List (List Int)) (hm : layLen rs ≤ 1000000) : ∀ (d i : Nat), i + d = rs.length → gangwaylaw12_size.l0 (d + 1) rs ((layLen (rs.take i) + 8 * i : Nat) : Int) (i : Int) = some ((layLen rs + 8 * rs.length : Nat) : Int)
  | 0, i, h => by
    obtain rfl : i = rs.length := by omega
    rw [gangwaylaw12_size.l0, if_neg (by omega), List.take_length]
  | d + 1, i, h => by
    have hi : i < rs.length := by omega
    have hx := layLen_next rs i hi
    have hc := layLen_count rs
    have he : layLen (rs.take (i + 1)) = layLen (rs.take i) + (8 + rs[i].length) := by
      rw [List.take_succ_eq_append_getElem hi, layLen_snoc]
    rw [gangwaylaw12_size.l0, if_pos (by omega), if_pos (by omega), rd_L2_at rs i hi, w64 (((layLen (rs.take i) + 8 * i : Nat) : Int) + (rs[i].length : Int)) (by omega), w64 _ (by omega), up64 (by omega)]
    have := size_l0 rs hm d (i + 1) (by omega)
    rw [he] at this
    rw [← this]
    congr 1
    omega
theorem size_f (rs : List (List Int)) (hm : layLen rs ≤ 1000000) : gangwaylaw12_size.f (rs.length + 1) rs = some ((layLen rs + 8 * rs.length : Nat) : Int) := by
  exact size_l0 rs hm rs.length 0 (by omega)
/-- What has no room may have none. -/
theorem lg_may (A : Option Addr) (c : Nat) (rs : List (List Int)) (n : Nat) (w : World) (hC : Kd.C (Kd.slice 5 (Kd.int .u8)) w A rs.length rs) (hc : rs.length ≤ c) (hm : layLen rs ≤ 1000000) (hn : n ≤ 10000) (hl : areaOf (n * 64) * 64 < layLen rs) :
    Calls Try.prog 44 #[.slice A rs.length c, .int .i64 n] w fun e w' => e = .returned (.bool true) ∧ Drawn0 w w' := by
  refine gangwaylaw12_may.calls (rs.length + 1) A c rs n true w hC hc ?_
  unfold gangwaylaw12_may.f
  rw [size_f rs hm, Option.bind_some, w64 ((n : Int) * 64) (by omega), Int.tdiv_eq_ediv_of_nonneg (by omega), w64 ((n : Int) * 64 / 3) (by omega), w64 _ (by omega)]
  congr 1
  refine decide_eq_true ?_
  unfold areaOf at hl
  rw [Nat.mul_div_cancel _ (by decide)] at hl
  omega
theorem among_l0 (can : List (List (List Int))) (r : List (List Int)) (hm : ∀ q ∈ can, layLen q ≤ 1000000) (hn : can.length < 1000000000) : ∀ (d i : Nat), i + d = can.length → r ∈ can.drop i → gangwaylaw12_among.l0 (3000000 + d) can r (i : Int) = some true
  | 0, i, h, hr => by rw [List.drop_of_length_le (by omega)] at hr; cases hr
  | d + 1, i, h, hr => by
    have hi : i < can.length := by omega
    have hx : rd_L6 can (i : Int) = can[i] := by
      unfold rd_L6
      rw [Int.toNat_natCast, List.getD_eq_getElem?_getD, List.getElem?_eq_getElem hi]
      rfl
    have hq := hm _ (List.getElem_mem hi)
    have hcn := layLen_count can[i]
    have he : gangwayref0_EqCells.f (3000000 + d) can[i] r = some (decide (can[i] = r)) := by
      refine at_rounds (g := fun k => gangwayref0_EqCells.f k can[i] r) (fun k => gangwayref0_EqCells.mono _ _ _) (show layLen can[i] + 1 + can[i].length + 1 ≤ _ by omega) ?_
      show gangwayref0_EqCells.f _ can[i] r = _
      unfold gangwayref0_EqCells.f
      by_cases hl : can[i].length = r.length
      · rw [if_pos (by omega)]
        have := leqc_l0 can[i] r hl (by omega) can[i].length 0 (by omega)
        simpa using this
      · rw [if_neg (by omega), decide_eq_false (fun h => hl (by rw [h]))]
    rw [show 3000000 + (d + 1) = 3000000 + d + 1 by omega, gangwaylaw12_among.l0, if_pos (by omega), if_pos (by omega), hx, he, Option.bind_some]
    by_cases hd : can[i] = r
    · rw [if_pos (decide_eq_true hd)]
    · rw [if_neg (by simpa using hd), up64 (by omega)]
      rw [List.drop_eq_getElem_cons hi] at hr
      exact among_l0 can r hm hn d (i + 1) (by omega) ((List.mem_cons.1 hr).resolve_left (fun h => hd h.symm))
theorem lg_among (A : Option Addr) (c : Nat) (can : List (List (List Int))) (B : Option Addr) (c2 : Nat) (r : List (List Int)) (w : World) (hA : Kd.C (Kd.slice 30 (Kd.slice 5 (Kd.int .u8))) w A can.length can) (hc : can.length ≤ c) (hB : Kd.C (Kd.slice 5 (Kd.int .u8)) w B r.length r) (hc2 : r.length ≤ c2) (hm : ∀ q ∈ can, layLen q ≤ 1000000) (hn : can.length < 1000000000) (hr : r ∈ can) :
    Calls Try.prog 45 #[.slice A can.length c, .slice B r.length c2] w fun e w' => e = .returned (.bool true) ∧ Drawn0 w w' :=
  gangwaylaw12_among.calls (3000000 + can.length) A c can B c2 r true w hA hc hB hc2 (among_l0 can r hm hn can.length 0 (by omega) hr)
theorem lcells_k (rs : List (List Int)) (hm : layLen rs < 1000000000) (k : Nat) (hk : layLen rs + 1 + rs.length + 1 ≤ k) : gangwayref0_CopyCells.f k rs = some rs :=
  at_rounds (g := fun k => gangwayref0_CopyCells.f k rs) (fun k => gangwayref0_CopyCells.mono _ _) hk (lcells_l0 rs hm rs.length 0 (by omega))
theorem layLen_drop_le (rs : List (List Int)) (i : Nat) : layLen (rs.drop i) ≤ layLen rs := by
  have h : layLen rs = layLen (rs.take i) + layLen (rs.drop i) := by
    unfold layLen
    rw [← List.sum_append, ← List.map_append, List.take_append_drop]
  omega
theorem replaced_f (rs : List (List Int)) (a0 a1 : Int) (R ps : List Int) (hm : layLen rs ≤ 1000000) (hR : R.length ≤ 1000000) : ∃ (k j : Nat), j ≤ rs.length ∧ gangwaylaw12_replaced.f k rs a0 a1 R ps = some (rs.drop j ++ [R]) := by
  have hcn := layLen_count rs
  obtain ⟨t, ht, h0, h1⟩ := within_f a1 (rs.length + 1) (by omega) (by omega)
  refine ⟨layLen rs + rs.length + R.length + 5, rs.length - t.toNat, by omega, ?_⟩
  have hd := layLen_drop_le rs (rs.length - t.toNat)
  unfold gangwaylaw12_replaced.f
  rw [w64 ((rs.length : Int) + 1) (by omega), show ((rs.length : Int) + 1) = ((rs.length + 1 : Nat) : Int) by omega, ht, Option.bind_some, w64 _ (by omega), if_pos (by omega), if_pos (by omega), show ((rs.length : Int) - t).toNat = rs.length - t.toNat by omega, lcells_k _ (by omega) _ (by rw [List.length_drop]; omega), Option.bind_some, lcopy_k R (by omega) _ (by omega), Option.bind_some, if_pos (by rw [List.length_drop]; omega)]
/-- What is not heavy has no long record. -/
theorem heavy_no (a : Int) (l1 : List S45) (l2 : List S65) (B : Int) (hB : 25 * B ≤ 9000000000000000000 ∧ 0 ≤ B) (hb : ∀ x ∈ l2, (x.f2.length : Int) + (x.f3.length : Int) ≤ B) (k : Nat) : ∀ (i : Nat) (x : Int), 0 ≤ x → x ≤ (i : Int) * B → i ≤ 25 → gangwaylaw12_heavy.l0 k x (i : Int) a l1 l2 = some false → x ≤ 8000 ∧ ∀ j, i ≤ j → j < 25 → j < l2.length → (l2.getD j z65).f2.length ≤ 8000 := by
  induction k with
  | zero =>
    intro i x h0 h1 h2 h
    rw [gangwaylaw12_heavy.l0] at h
    cases h
  | succ k ih =>
    intro i x h0 h1 h2 h
    rw [gangwaylaw12_heavy.l0] at h
    by_cases hi : i < l2.length
    · by_cases h25 : i < 25
      · have hrd : rd_T65 l2 (i : Int) = l2.getD i z65 := by
          unfold rd_T65
          rw [Int.toNat_natCast]
        have hmem : l2.getD i z65 ∈ l2 := by
          rw [List.getD_eq_getElem?_getD, List.getElem?_eq_getElem hi]
          exact List.getElem_mem hi
        have hq := hb _ hmem
        have hiB : (i : Int) * B ≤ 24 * B := Int.mul_le_mul_of_nonneg_right (by omega) hB.2
        have hB1 := hB.1
        have hs : ((i + 1 : Nat) : Int) * B = (i : Int) * B + B := by rw [Int.natCast_add, Int.add_mul]; simp
        rw [if_pos (by omega), if_pos (by omega), if_pos (by omega), hrd, w64 (x + _) (by omega), w64 _ (by omega), up64 (by omega)] at h
        obtain ⟨r1, r2⟩ := ih (i + 1) _ (by omega) (by rw [hs]; omega) (by omega) h
        refine ⟨by omega, fun j hj h25 hjl => ?_⟩
        rcases Nat.lt_or_ge i j with hij | hij
        · exact r2 j (by omega) h25 hjl
        · obtain rfl : j = i := by omega
          omega
      · rw [if_pos (by omega), if_neg (by omega)] at h
        refine ⟨?_, fun j hj hj2 => by omega⟩
        by_cases h8 : x > 8000
        · rw [if_pos h8] at h; cases h
        · omega
    · rw [if_neg (by omega)] at h
      refine ⟨?_, fun j hj _ hj2 => by omega⟩
      by_cases h8 : x > 8000
      · rw [if_pos h8] at h; cases h
      · omega
theorem not_heavy {k : Nat} {a : Int} {l1 : List S45} {l2 : List S65} (hb : ∀ x ∈ l2, x.f2.length ≤ 140737488351232 ∧ x.f3.length ≤ 140737488351232) (h : gangwaylaw12_heavy.f k a l1 l2 = some false) : ∀ j, j < 25 → j < l2.length → (l2.getD j z65).f2.length ≤ 8000 :=
  fun j h25 hj => (heavy_no a l1 l2 281474976702464 (by decide) (fun x hx => by have := hb x hx; omega) k 0 0 (by omega) (by omega) (by omega) h).2 j (Nat.zero_le _) h25 hj

end Go.Proofs.Ytpkhpfgojhojaaa.PLg

namespace Go.Proofs.Ytpkhpfgojhojaaa.PLg
open Go.RowKit Go.Proofs.YtpkhpfgojhojaaaW.PrintWords Go.Proofs.YtpkhpfgojhojaaaW.PrintLast Go.Proofs.YtpkhpfgojhojaaaW.PrintMore
attribute [local go_sem] max2_int min2_int max_two min_two max_three min_three max_four min_four
set_option linter.unusedVariables false
set_option linter.unusedSimpArgs false
-- IMPORT: Derived.Test.@N@WOwn
-- IMPORT: Derived.Test.@N@DLcrpure
-- IMPORT: Derived.Test.@N@DLwakes
-- IMPORT: Derived.Test.@N@DActcells
/-! ### LogCrashes: what the loops hold. -/
theorem R_one {α : Type} (d : Kd α) (hd1 : d.sz = 1) {W : World} {base e : Nat} {ok okp : Nat → Prop} {p : α} {u : Value} (hM : d.M W base okp p [u]) (hok : ∀ k, okp k → ok k) (hfresh : ok W.heap.size) (hbase : base ≤ W.heap.size) : d.R e (W.alloc (.cells #[u] e)) base ok (.slice (some ⟨W.heap.size, 0, none⟩) 1 1) [p] := by
  refine ⟨fun k hk => ?_, [u], ?_, ?_⟩
  · have : W.heap.size = k := by simpa [Value.ownBlock] using hk
    subst this
    exact hfresh
  · have h2 := World.ownsRow_lit (base := base) (e := e) (size := d.sz) W #[u] 1 hbase (by decide) (by rw [hd1]; rfl)
    simpa using h2
  · have hrep : Reps (d.M W base okp) d.sz [p] [u] := by
      rw [hd1]
      exact Reps.one hM (Reps.none _ _)
    refine hrep.imp_ (fun p c hp => d.M_mono (fun k hk => ⟨hok k hk.1, fun he => ?_⟩) (Kd.M_below (d.M_bound hp) (below_alloc (Below.refl _ _) _)))
    have h3 : k = W.heap.size := by simpa [Value.ownBlock] using he
    have := hk.2.2.1
    omega
theorem infoRows : (Try.prog.info? 63).map (fun i => (i.zero, i.size, i.bytes)) = some (some (.slice none 0 0), 1, 24) := by kernel_rfl
theorem lg_withinF (a : Int) (n r : Nat) (h : gangwaylaw0_Within.f a (n : Int) = some (r : Int)) (w : World) : Calls Try.prog 11 #[.int .i64 a, .int .i64 n] w fun e w' => e = .returned (.int .i64 r) ∧ Below w.heap.size w w' := by
  refine (gangwaylaw0_Within.calls a n r w h).mono ?_
  rintro e w' ⟨rfl, nd, hw⟩
  exact ⟨rfl, hw ▸ pw_below_drewN (Below.refl _ _) nd⟩
theorem within_n (a : Int) (n : Nat) (h0 : 0 < n) (hn : n < 2147483648) : ∃ r : Nat, r < n ∧ gangwaylaw0_Within.f a (n : Int) = some (r : Int) := by
  obtain ⟨r, hr, h1, h2⟩ := within_f a n h0 hn
  exact ⟨r.toNat, by omega, by rw [Int.toNat_of_nonneg h1]; exact hr⟩
/-! ### LogModel: without troubles. -/
def FineM (L : Nat) (y : Dk) (nr : Int) (rs0 rs : List (List Int)) (fr : Bool) (can : List (List (List Int))) : Prop :=
  Good L y nr rs0 rs fr ∧ (∀ n, y.tr n = false) ∧ rs0 ∈ can ∧ ∀ q ∈ can, layLen q ≤ 1000000
theorem good_small {L : Nat} (hL : SizeOk L) {y : Dk} {nr : Int} {rs0 rs : List (List Int)} {fr : Bool} (h : Good L y nr rs0 rs fr) : layLen rs ≤ 1000000 := Nat.le_trans h.2.2.2.2.2 (Nat.le_trans (area_le hL) (by decide))
theorem model_start (m : Nat) (h1 : 2 ≤ m) : FineM (m * 64) (Dk.new (List.replicate (m * 64) 0) []) 0 [] [] true [[]] :=
  ⟨⟨rfl, rfl, by show (List.replicate (m * 64) (0 : Int)).length = _; rw [List.length_replicate], holds_zero m h1, fun _ => rfl, Nat.zero_le _⟩, fun _ => rfl, List.mem_singleton.2 rfl, fun x hx => by rw [List.mem_singleton.1 hx]; decide⟩
theorem model_next {L : Nat} (hL : SizeOk L) {y : Dk} {nr : Int} {rs0 rs q : List (List Int)} {fr fr' : Bool} {can : List (List (List Int))} (h : FineM L y nr rs0 rs fr can) (hG : Good L y nr rs0 q fr') : FineM L y nr rs0 q fr' (can ++ [q]) :=
  ⟨hG, h.2.1, List.mem_append_left _ h.2.2.1, fun x hx => (List.mem_append.1 hx).elim (h.2.2.2 x) (fun e => by rw [List.mem_singleton.1 e]; exact good_small hL hG)⟩
theorem model_synced {L : Nat} (hL : SizeOk L) {y y' : Dk} {nr nr' : Int} {rs0 rs : List (List Int)} {fr fr' : Bool} {can : List (List (List Int))} (h : FineM L y nr rs0 rs fr can) (hG : Good L y' nr' rs rs fr') (ht : y'.tr = y.tr) : FineM L y' nr' rs rs fr' [rs] :=
  ⟨hG, by rw [ht]; exact h.2.1, List.mem_singleton.2 rfl, fun x hx => by rw [List.mem_singleton.1 hx]; exact good_small hL hG⟩
theorem model_crash {L : Nat} (hL : SizeOk L) {y : Dk} {nr : Int} {rs0 rs : List (List Int)} {fr : Bool} {can : List (List (List Int))} (h : FineM L y nr rs0 rs fr can) (hf : y.Fits) (ps : List Int) : Holds (y.crash ps) nr rs0 ∧ (y.crash ps).length = L ∧ FineM L (Dk.new (y.crash ps) []) nr rs0 rs0 true [rs0] := by
  obtain ⟨⟨ho, hSE, hEl, hH, hfr, hll⟩, ht, hr, hq⟩ := h
  have hm := crash_mix y hf ps
  rw [hSE] at hm
  rw [mix_same hm (by rw [hEl]; exact hL.1)]
  exact ⟨hH, hEl, ⟨⟨rfl, rfl, hEl, hH, fun _ => rfl, by rw [← hEl]; exact hH.2.1⟩, fun _ => rfl, List.mem_singleton.2 rfl, fun x hx => by rw [List.mem_singleton.1 hx]; exact hq _ hr⟩⟩
theorem size_model (m : Nat) (h1 : 40 ≤ m) (h2 : m < 340) : SizeOk (m * 64) := ⟨by omega, by omega, by omega⟩

end Go.Proofs.Ytpkhpfgojhojaaa.PLg

namespace Go.Proofs.Ytpkhpfgojhojaaa.PLg
open Go.RowKit Go.Proofs.YtpkhpfgojhojaaaW.PrintWords Go.Proofs.YtpkhpfgojhojaaaW.PrintLast Go.Proofs.YtpkhpfgojhojaaaW.PrintMore
attribute [local go_sem] max2_int min2_int max_two min_two max_three min_three max_four min_four
set_option linter.unusedVariables false
set_option linter.unusedSimpArgs false
-- IMPORT: Derived.Test.@N@WOwn
-- IMPORT: Derived.Test.@N@DWords
set_option maxHeartbeats 4000000 in
set_option maxRecDepth 100000 in
/-- A row (or its rest) of the call's own is spoilt. -/
theorem dk_spoil (v : Value) (l : List Int) (w : World) (base : Nat) (ok : Nat → Prop) (h : (Kd.int .u8).Q 5 w base ok v l) (hbs : base ≤ w.heap.size) (hm : l.length < 140737488355327) :
    Calls Try.prog 21 #[v] w fun e w' => e = .returned (.tuple #[]) ∧ Kept w w' ok ∧ Below base w w' := by
  obtain ⟨A, c, rfl, hc⟩ := Kd.Q_slice h
  have HQ0 := Aside0.mk (Kd.Q_mono h (ok' := fun k => ok k ∨ w.heap.size ≤ k) (fun k hk => .inl hk))
  have HOK := Aside0.mk h.1
  have HBS := Aside0.mk hbs
  obtain ⟨n, hn⟩ : ∃ n, n = l.length := ⟨_, rfl⟩
  rw [← hn] at HQ0 HOK hc
  rw [← hn]
  have HN := Aside0.mk hn
  have hnm : n < 140737488355327 := by omega
  have HC := Aside0.mk hc
  clear h hbs hm hn hc
  go_enter Try.func21, Try.ntmps21
  go_wp2
  go_loopw [2] (fun v2 w' => ∃ (i : Nat) (q : List Int), i ≤ n ∧ v2 = .int .i64 i ∧ Aside0 (q.length = n) ∧ Aside0 ((Kd.int .u8).Q 5 w' base (fun k => ok k ∨ w.heap.size ≤ k) (.slice A n c) q) ∧ Aside0 (Kept w w' ok) ∧ Aside0 (Below base w w')) (fun v2 _ => n - (intOf v2).toNat)
  case atStart => exact ⟨0, l, Nat.zero_le _, rfl, ⟨HN.out.symm⟩, HQ0, ⟨Kept.refl _ _⟩, ⟨Below.refl _ _⟩⟩
  case round =>
    clear HQ0
    obtain ⟨i, q, hi, rfl, HL, HQ, HK, HB⟩ := hrel
    by_cases hlt : i < n
    · obtain ⟨g, o, cap, e, hbg, hgl, cells, hgc⟩ := Kd.Q_form HQ.out (by rw [HL.out]; omega)
      rw [HL.out] at e
      injection e with e1 _ e3
      subst e1
      subst e3
      have hcell := Kd.Q_cell (enc := Value.int .u8) (h1 := fun _ => rfl) (0 : Int) HQ.out (i : Int) (by omega) (by omega)
      rw [Int.toNat_natCast] at hcell
      obtain ⟨y, hy⟩ : ∃ y, y = rdOf (0 : Int) q (i : Int) := ⟨_, rfl⟩
      rw [← hy] at hcell
      obtain ⟨hq1, hq2⟩ := hcell
      have HPUT := Aside0.mk (fun x : Int => Kd.Q_putg (enc := Value.int .u8) (h1 := fun _ => rfl) HQ.out (i : Int) (by omega) (by omega) x)
      have HBG := Aside0.mk hbg
      have HOG : Aside0 (ok g) := ⟨HOK.out g rfl⟩
      clear hy hbg hgl hgc
      go_wp2
      go_roundw
      case rel =>
        have := HPUT.out (Go.bits .xor .u8 y 85)
        rw [Int.toNat_natCast] at this
        exact ⟨i + 1, _, by omega, by go_num, ⟨by rw [List.length_set]; exact HL.out⟩, ⟨this.1⟩, ⟨HK.out.setCell (p := ⟨g, o + i, none⟩) (.inl HOG.out) _⟩, ⟨HB.out.setCell (p := ⟨g, o + i, none⟩) HBG.out _⟩⟩
      case measure => simp [intOf]; omega
    · have hge : decide (i < n) = false := decide_eq_false hlt
      go_wp2_with (first | (at_builtin; refine Kd.Q_append (Kd.int .u8) (w0 := w) base rfl (.tmp 17) (.tmp 18) 30 5 (.int .u8 0) 1 rfl Try.underlying30 info5 rfl (by decide) (by decide) (.slice A n c) q 5 [.int .u8 5] (fun k => ok k ∨ w.heap.size ≤ k) (fun _ => False) rfl rfl ?aP (fun _ hk => hk.elim) ?aF ?aO ?aB ?aS ?aL ?_; (case aP => exact rfl); (case aF => exact fun k hk => .inr (Nat.le_trans HB.out.size hk)); (case aO => exact HQ.out); (case aB => exact HB.out); (case aS => exact Nat.le_trans HBS.out HB.out.size); (case aL => rw [HL.out]; omega); intro v1 w1 hQ hBB hg hat; have HB1 := Aside0.mk hBB; have HK1 := Aside0.mk (Kept.of_grown hg HK.out (fun k hk => .inl (HOK.out k hk))); clear hQ hBB hg hat))
      go_end0
      exact ⟨rfl, HK1.out, HB1.out⟩

end Go.Proofs.Ytpkhpfgojhojaaa.PLg

namespace Go.Proofs.Ytpkhpfgojhojaaa.PLg
open Go.RowKit Go.Proofs.YtpkhpfgojhojaaaW.PrintWords Go.Proofs.YtpkhpfgojhojaaaW.PrintLast Go.Proofs.YtpkhpfgojhojaaaW.PrintMore
attribute [local go_sem] max2_int min2_int max_two min_two max_three min_three max_four min_four
set_option linter.unusedVariables false
set_option linter.unusedSimpArgs false
-- FUNCTION: gangway/gangwaylaw0.Cells
-- IMPORT: Derived.Test.@N@WOwn
-- IMPORT: Derived.Test.@N@DSpoil
-- IMPORT: Derived.Test.@N@DLcrwords
set_option maxHeartbeats 4000000 in
set_option maxRecDepth 100000 in
/-- Rows of the call's own are spoilt. -/
theorem lg_spoil (v : Value) (rs : List (List Int)) (w : World) (base : Nat) (ok : Nat → Prop) (h : Kd.S (Kd.slice 5 (Kd.int .u8)) 30 w base ok v rs) (hbs : base ≤ w.heap.size) (hm : layLen rs ≤ 1000000) :
    Calls Try.prog 46 #[v] w fun e w' => e = .returned (.tuple #[]) ∧ Kept w w' ok ∧ Below base w w' := by
  obtain ⟨A, c, rfl⟩ := Kd.S_slice h
  have hrn := layLen_count rs
  have hrow : ∀ x ∈ rs, x.length ≤ 1000000 := fun x hx => by
    obtain ⟨j, hj, rfl⟩ := List.getElem_of_mem hx
    have := layLen_next rs j hj
    omega
  have HS0 := Aside0.mk (Kd.S_mono h (ok' := fun k => ok k ∨ w.heap.size ≤ k) (fun k hk => .inl hk))
  have HOK : Aside0 (∀ k, (Value.slice A rs.length c).ownBlock = some k → ok k) := ⟨(Kd.S_R h).1⟩
  have HBS := Aside0.mk hbs
  have HSB := Aside0.mk (Kd.S_bound h)
  obtain ⟨n, hn⟩ : ∃ n, n = rs.length := ⟨_, rfl⟩
  have HS00 : Aside0 (Kd.S (Kd.slice 5 (Kd.int .u8)) 30 w base ok (.slice A n c) rs) := ⟨by rw [hn]; exact h⟩
  rw [← hn] at HOK
  rw [← hn]
  have HN := Aside0.mk hn
  have hnm : n ≤ 1000000 := by omega
  have HRW := Aside0.mk hrow
  clear h hbs hm hn hrow hrn HS0 HSB
  go_enter Try.func46, Try.ntmps46
  go_wp2
  go_loopw [2] (fun v2 w' => ∃ (i : Nat) (q : List (List Int)), i ≤ n ∧ v2 = .int .i64 i ∧ Aside0 (q.length = n) ∧ Aside0 (∀ x ∈ q, x.length ≤ 1000000) ∧ Aside0 (Kd.S (Kd.slice 5 (Kd.int .u8)) 30 w' base ok (.slice A n c) q) ∧ Aside0 (Kept w w' ok) ∧ Aside0 (Below base w w')) (fun v2 _ => n - (intOf v2).toNat)
  case atStart => exact ⟨0, rs, Nat.zero_le _, rfl, ⟨HN.out.symm⟩, HRW, HS00, ⟨Kept.refl _ _⟩, ⟨Below.refl _ _⟩⟩
  case round =>
    clear HS00 HRW HN
    obtain ⟨i, q, hi, rfl, HL, HRW, HS, HK, HB⟩ := hrel
    by_cases hlt : i < n
    · obtain ⟨g, cap, e, hbg, hgl, cells, hgc⟩ := Kd.S_form HS.out (by rw [HL.out]; omega)
      rw [HL.out] at e
      injection e with e1 _ e3
      subst e1
      subst e3
      obtain ⟨oki, cs, hcl, hM, hcc, hfr, hoki, hH⟩ := Kd.S_elem HS.out ([] : List Int) (i : Int) (by omega) (by omega)
      rw [Int.toNat_natCast] at hM hcc hfr
      obtain ⟨y, hy⟩ : ∃ y, y = q.getD i [] := ⟨_, rfl⟩
      have hyl : y.length ≤ 1000000 := by
        rw [hy, List.getD_eq_getElem?_getD, List.getElem?_eq_getElem (by rw [HL.out]; exact hlt)]
        exact HRW.out _ (List.getElem_mem _)
      rw [← hy] at hM
      obtain ⟨u, rfl, hR⟩ := hM
      obtain ⟨Au, cu, rfl⟩ := Kd.R_slice hR
      have hcell : wr.cell? ⟨g, i, none⟩ = some (.slice Au y.length cu) := by
        have := hcc 0 _ rfl
        rwa [show i * (Kd.slice 5 (Kd.int .u8)).sz + 0 = i by show i * 1 + 0 = i; omega] at this
      have hfrz : wr.frozen? ⟨g, i, none⟩ = false := by
        have := hfr 0
        rwa [show i * (Kd.slice 5 (Kd.int .u8)).sz + 0 = i by show i * 1 + 0 = i; omega] at this
      have HR := Aside0.mk hR
      have HH := Aside0.mk hH
      have HYL := Aside0.mk hyl
      have HBG := Aside0.mk hbg
      have HGL := Aside0.mk hgl
      have HGC := Aside0.mk hgc
      have HOI := Aside0.mk hoki
      have HOG : Aside0 (ok g) := ⟨HOK.out g rfl⟩
      clear hcl hcc hfr hoki hH hy hyl hbg hgl hR hgc
      go_wp2_with fail
      refine (dk_spoil (.slice Au y.length cu) y _ base oki (Kd.Q_of_R HR.out) (Nat.le_trans HBS.out HB.out.size) (by have := HYL.out; omega)).mono ?_
      rintro e' w1 ⟨rfl, hk, hb⟩
      have hcell1 : w1.cell? ⟨g, i, none⟩ = some (.slice Au y.length cu) := by
        have he := hk.2 g HGL.out (fun h => (HOI.out g h).2 rfl)
        unfold World.cell? at hcell ⊢
        simp only at hcell ⊢
        rw [he]
        exact hcell
      have hgc1 : w1.heap[g]? = some (.cells cells 30 (0, 0)) := (hk.2 g HGL.out (fun h => (HOI.out g h).2 rfl)).trans HGC.out
      have hfrz1 := blk_frozen hgc1 i
      have HH1 := Aside0.mk (Kd.H_step HH.out (w1 := w1) (fun k ho hn hlt => hk.2 k hlt hn))
      have HK1 := Aside0.mk (HK.out.then_ hk (fun k h => .inl (HOI.out k h).1))
      have HB1 := Aside0.mk (HB.out.trans hb)
      clear hk hb hcell hfrz hgc1
      go_wp2
      go_roundw
      case rel =>
        have hs := (Kd.H_seg HH1.out (by omega) (by omega) (seg := [.slice none 0 0]) (j := 0) (by decide) (fun q hq => by rw [List.mem_singleton.1 hq]; rfl)).1
        have hs2 := Kd.H_back hs (x' := []) (okp := fun _ => False) (Kd.M_row (Kd.R_nil _ _ _ _ _)) (fun _ h => h.elim)
        rw [Int.toNat_natCast, show i * (Kd.slice 5 (Kd.int .u8)).sz + 0 = i by show i * 1 + 0 = i; omega] at hs2
        exact ⟨i + 1, q.set i [], by omega, by go_num, ⟨by rw [List.length_set]; exact HL.out⟩, ⟨fun x hx => (List.mem_or_eq_of_mem_set hx).elim (HRW.out x) (fun e => by rw [e]; exact Nat.zero_le _)⟩, ⟨hs2⟩, ⟨HK1.out.setCell (p := ⟨g, i, none⟩) (.inl HOG.out) _⟩, ⟨HB1.out.setCell (p := ⟨g, i, none⟩) HBG.out _⟩⟩
      case measure => simp [intOf]; omega
    · have hge : decide (i < n) = false := decide_eq_false hlt
      have HSR := Aside0.mk (Kd.R_mono (Kd.S_R HS.out) (ok' := fun k => ok k ∨ w.heap.size ≤ k) (fun k hk => .inl hk))
      go_wp2_with (first | (at_builtin; refine Kd.R_append (Kd.slice 5 (Kd.int .u8)) (w0 := w) base rfl (.tmp 17) (.tmp 18) 63 30 (.slice none 0 0) 24 rfl Try.underlying63 info30 rfl Nat.one_pos (Nat.succ_pos 23) (.slice A n c) q [] [.slice none 0 0] (fun k => ok k ∨ w.heap.size ≤ k) (fun _ => False) rfl rfl ?aP (fun _ hk => hk.elim) ?aF ?aO ?aB ?aS ?aL ?_; (case aP => exact Kd.M_row (Kd.R_nil _ _ _ _ _)); (case aF => exact fun k hk => .inr (Nat.le_trans HB.out.size hk)); (case aO => exact HSR.out); (case aB => exact HB.out); (case aS => exact Nat.le_trans HBS.out HB.out.size); (case aL => rw [HL.out]; omega); intro v1 w1 hQ hBB hg hat; have HB1 := Aside0.mk hBB; have HK1 := Aside0.mk (Kept.of_grown hg HK.out (fun k hk => .inl (HOK.out k hk))); clear hQ hBB hg hat))
      go_end0
      exact ⟨rfl, HK1.out, HB1.out⟩

end Go.Proofs.Ytpkhpfgojhojaaa.PLg
