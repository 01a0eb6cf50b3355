/- Parts of one proof, merged by merge.py of this repo: walks over the given program and plain facts, used by the law of the file YtpkhpfgojhojaaaCLogLasts. -/
import Derived.Test.YtpkhpfgojhojaaaMLogLasts3
import Derived.Test.YtpkhpfgojhojaaaMLogLasts6
import Derived.Test.YtpkhpfgojhojaaaMLogLasts5
import Derived.Test.YtpkhpfgojhojaaaMLogLasts2
import Derived.Test.YtpkhpfgojhojaaaMLogLasts4
namespace Go.Proofs.Ytpkhpfgojhojaaa.PLg
open Go.RowKit Go.Proofs.YtpkhpfgojhojaaaW.PrintWords Go.Proofs.YtpkhpfgojhojaaaW.PrintLast Go.Proofs.YtpkhpfgojhojaaaW.PrintMore
attribute [local go_sem] max2_int min2_int max_two min_two max_three min_three max_four min_four   -- for this text's walks alone
set_option linter.unusedVariables false
set_option linter.unusedSimpArgs false

/-! ### gangwayref0_CopyCells: function 39 -/
def gangwayref0_CopyCells.l0 : Nat → List (List Int) → List (List Int) → Int → Option ((List (List Int)))
  | 0, _, _, _ => none
  | k + 1, x0, x3, x4 => if x4 < (x0.length : Int) then (if 0 ≤ x4 then ((gangwayref0_CopyBytes.f k (rd_L2 x0 x4)).bind fun t175 => (if x3.length < 5864062014805 then (gangwayref0_CopyCells.l0 k x0 (x3 ++ [t175]) (wrap64 (x4 + 1))) else (none))) else (none)) else (some x3)
def gangwayref0_CopyCells.f (k : Nat) (l0 : List (List Int)) : Option ((List (List Int))) := gangwayref0_CopyCells.l0 k l0 ([] : List (List Int)) 0
theorem gangwayref0_CopyCells.mono_l : ∀ k, (∀ y0 y1 y2, LeO (gangwayref0_CopyCells.l0 k y0 y1 y2) (gangwayref0_CopyCells.l0 (k + 1) y0 y1 y2))
  | 0 => fun _ _ _ r h => by simp [gangwayref0_CopyCells.l0] at h
  | k + 1 => by
    have ih0 := gangwayref0_CopyCells.mono_l k
    · intro y0 y1 y2
      unfold gangwayref0_CopyCells.l0
      repeat' first
      | (with_reducible exact ih0 _ _ _)
      | (with_reducible exact gangwayref0_CopyBytes.mono _ _)
      | (with_reducible exact LeO.refl _)
      | (with_reducible exact LeO.none _)
      | (with_reducible refine LeO.ite ?_ ?_)
      | (with_reducible refine LeO.bind ?_ (fun _ => ?_))
      | exact ih0 _ _ _
      | exact gangwayref0_CopyBytes.mono _ _
      | exact LeO.none _
      | refine LeO.ite ?_ ?_
      | refine LeO.bind ?_ (fun _ => ?_)
theorem gangwayref0_CopyCells.mono : ∀ a0 k, LeO (gangwayref0_CopyCells.f k a0) (gangwayref0_CopyCells.f (k + 1) a0) := by
  intro a0 k
  have ih0 := gangwayref0_CopyCells.mono_l k
  unfold gangwayref0_CopyCells.f
  repeat' first
      | (with_reducible exact ih0 _ _ _)
      | (with_reducible exact gangwayref0_CopyBytes.mono _ _)
      | (with_reducible exact LeO.refl _)
      | (with_reducible exact LeO.none _)
      | (with_reducible refine LeO.ite ?_ ?_)
      | (with_reducible refine LeO.bind ?_ (fun _ => ?_))
      | exact ih0 _ _ _
      | exact gangwayref0_CopyBytes.mono _ _
      | exact LeO.none _
      | refine LeO.ite ?_ ?_
      | refine LeO.bind ?_ (fun _ => ?_)
set_option maxHeartbeats 8000000 in
set_option maxRecDepth 100000 in
theorem gangwayref0_CopyCells.calls (k : Nat) (A0 : Option Addr) (c0 : Nat) (l0 : List (List Int)) (r : List (List Int)) (w : World) (hr0 : Kd.C (Kd.slice 5 (Kd.int .u8)) w A0 l0.length l0) (hc0 : l0.length ≤ c0) (h : gangwayref0_CopyCells.f k l0 = some r) :
    Calls Try.prog 39 #[.slice A0 l0.length c0] w fun e w' => ∃ v0_ : Value, e = .returned (v0_) ∧ Kd.S (Kd.slice 5 (Kd.int .u8)) 30 w' w.heap.size (fun _ => True) v0_ r ∧ Below w.heap.size w w' := by
  have HR0 := Aside0.mk hr0
  have HC0 := Aside0.mk hc0
  clear hr0 hc0
  have HB := Aside0.mk (Below.refl w.heap.size w)
  have H : (gangwayref0_CopyCells.l0 k l0 ([] : List (List Int)) 0) = some r := h
  clear h
  have H' := Aside0.mk H
  clear H
  go_enter Try.func39, Try.ntmps39
  go_wp2
  go_loopg [3, 4] k (fun kq v3 v4 w' => ∃ (x3_1 : List (List Int)) (x4_1 : Int), v4 = .int .i64 x4_1 ∧ Aside0 (gangwayref0_CopyCells.l0 kq l0 x3_1 x4_1 = some r) ∧ Aside0 (kq ≤ k) ∧ Aside0 (Kd.S (Kd.slice 5 (Kd.int .u8)) 30 w' w.heap.size (fun _ => True) v3 x3_1) ∧ Aside0 (Below w.heap.size w w'))
  case atStart => exact ⟨(([] : List (List Int))), (0), (by first | rfl | (simp; done) | (simp [*]; done)), H', ⟨Nat.le_refl _⟩, ⟨by first | exact Kd.S_nil _ _ _ _ _ | exact Kd.N_nil _ _ _ _ _ | exact Kd.V_nil _ _ _ _ _ | exact Kd.Q_nil _ _ _ _ _ | exact Kd.R_nil _ _ _ _ _⟩, ⟨by repeat (first | (with_reducible first | exact HB.out | apply below_alloc | apply pw_below_drewN | apply below_drew1) | exact HB.out)⟩⟩
  case round =>
    clear H'
    obtain ⟨x3_1, x4_1, rfl, HA, HK1, HO_3, HB⟩ := hrel
    cases gk with
    | zero => exact absurd HA.out (by simp [gangwayref0_CopyCells.l0])
    | succ k1 =>
      have H := HA.out
      clear HA
      simp only [gangwayref0_CopyCells.l0] at H
      by_cases c2 : x4_1 < (l0.length : Int)
      · rw [if_pos c2] at H
        have c2b0 : decide (x4_1 < (l0.length : Int)) = true := decide_eq_true c2
        clear c2
        by_cases c3 : 0 ≤ x4_1
        · rw [if_pos c3] at H
          have c3b0 : decide (0 ≤ x4_1) = true := decide_eq_true c3
          clear c3
          replace H := Option.bind_eq_some_iff.mp H
          obtain ⟨t175, A40, H⟩ := H
          replace H : (if x3_1.length < 5864062014805 then (gangwayref0_CopyCells.l0 k1 l0 (x3_1 ++ [t175]) (wrap64 (x4_1 + 1))) else (none)) = some r := H
          have A4 := Aside0.mk A40
          clear A40
          by_cases c5 : x3_1.length < 5864062014805
          · rw [if_pos c5] at H
            have LMc5 := Aside0.mk c5
            clear c5
            obtain ⟨y178, hy178⟩ : ∃ y_ : List (List Int), y_ = (x3_1 ++ [t175]) := ⟨_, rfl⟩
            replace H : (gangwayref0_CopyCells.l0 k1 l0 y178 (wrap64 (x4_1 + 1))) = some r := by first | (rw [hy178]; with_reducible exact H) | (have H2_ := (Option.bind_some _ _).symm.trans H; rw [hy178]; with_reducible exact H2_) | (have H2_ := (Option.bind_some _ _).symm.trans H; with_reducible exact H2_) | with_reducible exact H | (rw [hy178]; exact H) | exact H
            have Ny178 := Aside0.mk hy178
            clear hy178
            have H' := Aside0.mk H
            clear H
            have p174 : 0 ≤ (x4_1 : Int) := of_decide_eq_true (by first | (with_reducible assumption) | assumption)
            have q174 : x4_1 < (l0.length : Int) := of_decide_eq_true (by first | (with_reducible assumption) | assumption)
            obtain ⟨ad174, A174_0, c174_0, e174, hx174_0, hl174_0, hi174_0⟩ := at_L2 HR0.out x4_1 p174 q174
            cases e174
            replace hx174_0 := (HB.out.cell (World.block_lt_of_cell? w _ hx174_0)).trans hx174_0
            have HR174_0 := Aside0.mk hi174_0
            have HC174_0 := Aside0.mk hl174_0
            clear hi174_0 hl174_0
            replace p174 := eq_true p174
            replace q174 := eq_true q174
            go_wp2_with (first | ((with_reducible refine gate_callee (f := 20) rfl ?_); refine goesL_ (some 16) rfl rfl Try.func20 (by kernel_rfl) rfl #[.slice A174_0 (rd_L2 l0 x4_1).length c174_0] rfl (by (try simp only [List.map_toArray, List.map_cons, List.map_nil]); first | done | rfl | (simp only [List.length_drop, List.length_take]; rfl)) ?_; (with_reducible refine (gangwayref0_CopyBytes.calls k1 _ _ (rd_L2 l0 x4_1) t175 _ ?side1 ?side2 A4.out).mono ?_); (case side1 => repeat (first | exact (Kd.C_below HR174_0.out HB.out) | (with_reducible refine Kd.C_alloc ?_ _) | (with_reducible refine Kd.C_drewN ?_ _) | (with_reducible refine Kd.C_drew ?_))); (case side2 => exact HC174_0.out); rintro e w6 ⟨v176, rfl, ho0, hb⟩; refine ⟨_, rfl, ?_⟩; have n0_ := Aside0.mk (Kd.S_elder' (by (with_reducible repeat (first | apply Kd.S_alloc | apply Kd.S_drewN | apply Kd.S_drew)); exact HO_3.out) (Kd.R_base ho0) hb); have n1_ := Aside0.mk (Kd.R_lower ho0 (below_size (by repeat (first | (with_reducible first | exact HB.out | apply below_alloc | apply pw_below_drewN | apply below_drew1) | exact HB.out)))); have n2_ := Aside0.mk (below_step (by repeat (first | (with_reducible first | exact HB.out | apply below_alloc | apply pw_below_drewN | apply below_drew1) | exact HB.out)) hb); clear HO_3; clear HB; have HO_3 := n0_; have HO177 := n1_; have HB := n2_; clear n0_ n1_ n2_; (try clear hb); (try clear hb2); (try clear hk); (try clear hi); (try clear ho0); obtain ⟨Ao8, co8, eo8⟩ := Kd.R_slice HO177.out; subst eo8) | ((with_reducible refine gate_builtin (b := .append) (xs := #[.tmp 11, .tmp 17]) rfl ?_); at_builtin; refine Kd.S_append (Kd.slice 5 (Kd.int .u8)) (w0 := w) w.heap.size rfl (.tmp 11) (.tmp 17) 63 30 (.slice none 0 0) 24 rfl Try.underlying63 info30 rfl (by decide) (by omega) u3 x3_1 t175 [.slice Ao8 t175.length co8] (fun _ => True) (fun k_ => some k_ = (.slice Ao8 t175.length co8 : Value).ownBlock) rfl rfl ?aP (fun k_ hk_ => ((Kd.R_mono (ok' := fun k_ => ((fun _ => True)) k_ ∧ some k_ ≠ (u3 : Value).ownBlock) (Kd.R_apart' (HO177.out) (Kd.S_typed HO_3.out) (by decide)) (fun k_ hk => ⟨trivial, hk.2⟩))).1 k_ hk_.symm) ?aF ?aO ?aB ?aS ?aL ?_; (case aP => exact Kd.M_row (Kd.R_mono (Kd.R_tight rfl (Kd.R_mono (ok' := fun k_ => ((fun _ => True)) k_ ∧ some k_ ≠ (u3 : Value).ownBlock) (Kd.R_apart' (HO177.out) (Kd.S_typed HO_3.out) (by decide)) (fun k_ hk => ⟨trivial, hk.2⟩))) (fun _ h_ => h_))); (case aB => exact (by repeat (first | (with_reducible first | exact HB.out | apply below_alloc | apply pw_below_drewN | apply below_drew1) | exact HB.out))); (case aF => exact (fun _ _ => trivial)); (case aO => exact (by (with_reducible repeat (first | apply Kd.S_alloc | apply Kd.S_drewN | apply Kd.S_drew)); exact Kd.S_mono HO_3.out (fun k_ hk => ⟨trivial, fun e_ => hk.2 e_⟩))); (case aS => exact (below_size (by repeat (first | (with_reducible first | exact HB.out | apply below_alloc | apply pw_below_drewN | apply below_drew1) | exact HB.out)))); (case aL => have := LMc5.out; omega); intro v179 w7 ho hb hg hat; rw [← Ny178.out] at ho; have n0_ := Aside0.mk (hb); have n1_ := Aside0.mk (ho); clear HB; clear HO_3; clear HO177; have HB := n0_; have HO180 := n1_; clear n0_ n1_; clear ho hb hg hat))
            go_roundg k1
            case measure => have := HK1.out; omega
            case rel => exact ⟨(y178), (wrap64 (x4_1 + 1)), (by first | rfl | (simp; done) | (simp [*]; done)), H', ⟨by have := HK1.out; omega⟩, ⟨by (with_reducible repeat (first | apply Kd.S_alloc | apply Kd.S_drewN | apply Kd.S_drew)); exact HO180.out⟩, ⟨by repeat (first | (with_reducible first | exact HB.out | apply below_alloc | apply pw_below_drewN | apply below_drew1) | exact HB.out)⟩⟩
          · rw [if_neg c5] at H
            exact absurd H (by simp)
        · rw [if_neg c3] at H
          exact absurd H (by simp)
      · rw [if_neg c2] at H
        have c2b0 : decide (x4_1 < (l0.length : Int)) = false := decide_eq_false c2
        clear c2
        obtain rfl := Option.some.inj H
        go_wp2
        go_ret
        exact ⟨_, by first | rfl | (simp [errW_none, errW_some] <;> rfl) | (simp [*, errW_none, errW_some] <;> rfl), by (with_reducible repeat (first | apply Kd.S_alloc | apply Kd.S_drewN | apply Kd.S_drew)); exact HO_3.out, by repeat (first | (with_reducible first | exact HB.out | apply below_alloc | apply pw_below_drewN | apply below_drew1) | exact HB.out)⟩

end Go.Proofs.Ytpkhpfgojhojaaa.PLg

namespace Go.Proofs.Ytpkhpfgojhojaaa.PLg
open Go.RowKit Go.Proofs.YtpkhpfgojhojaaaW.PrintWords Go.Proofs.YtpkhpfgojhojaaaW.PrintLast Go.Proofs.YtpkhpfgojhojaaaW.PrintMore
attribute [local go_sem] max2_int min2_int max_two min_two max_three min_three max_four min_four
set_option linter.unusedVariables false
set_option linter.unusedSimpArgs false
-- IMPORT: Derived.Test.@N@WOwn
-- IMPORT: Derived.Test.@N@DLquiet
/-! ### Rows of rows: copied, and compared. -/
theorem lcopy_l0 (a : List Int) (hm : a.length < 140737488355328) : ∀ (d i : Nat), i + d = a.length → gangwayref0_CopyBytes.l0 (d + 1) a (a.take i) (i : Int) = some a
  | 0, i, h => by rw [gangwayref0_CopyBytes.l0, if_neg (by omega), List.take_of_length_le (by omega)]
  | d + 1, i, h => by
    rw [gangwayref0_CopyBytes.l0, if_pos (by omega), if_pos (by omega), if_pos (by rw [List.length_take]; omega), up64 (by omega), rd_get a i (by omega), ← List.take_succ_eq_append_getElem (by omega)]
    exact lcopy_l0 a hm d (i + 1) (by omega)
theorem lcopy_k (a : List Int) (hm : a.length < 140737488355328) (k : Nat) (hk : a.length + 1 ≤ k) : gangwayref0_CopyBytes.f k a = some a :=
  at_rounds (g := fun k => gangwayref0_CopyBytes.f k a) (fun k => gangwayref0_CopyBytes.mono _ _) hk (lcopy_l0 a hm a.length 0 (by omega))
theorem lg_copyB (A : Option Addr) (c : Nat) (l : List Int) (w : World) (hC : (Kd.int .u8).C w A l.length l) (hc : l.length ≤ c) (hm : l.length < 140737488355328) :
    Calls Try.prog 20 #[.slice A l.length c] w fun e w' => ∃ v : Value, e = .returned v ∧ (Kd.int .u8).R 5 w' w.heap.size (fun _ => True) v l ∧ Below w.heap.size w w' :=
  gangwayref0_CopyBytes.calls (l.length + 1) A c l l w hC hc (lcopy_k l hm _ (Nat.le_refl _))
theorem lcells_l0 (rs : List (List Int)) (hm : layLen rs < 1000000000) : ∀ (d i : Nat), i + d = rs.length → gangwayref0_CopyCells.l0 (layLen rs + 1 + d + 1) rs (rs.take i) (i : Int) = some rs
  | 0, i, h => by rw [Nat.add_zero, gangwayref0_CopyCells.l0, if_neg (by omega), List.take_of_length_le (by omega)]
  | d + 1, i, h => by
    have hi : i < rs.length := by omega
    have hx := layLen_next rs i hi
    have hc := layLen_count rs
    rw [gangwayref0_CopyCells.l0, if_pos (by omega), if_pos (by omega), rd_L2_at rs i hi, lcopy_k _ (by omega) _ (by omega), Option.bind_some, if_pos (by rw [List.length_take]; omega), up64 (by omega), ← List.take_succ_eq_append_getElem hi]
    exact lcells_l0 rs hm d (i + 1) (by omega)
theorem lg_copyCells (A : Option Addr) (c : Nat) (rs : List (List Int)) (w : World) (hC : Kd.C (Kd.slice 5 (Kd.int .u8)) w A rs.length rs) (hc : rs.length ≤ c) (hm : layLen rs < 1000000000) :
    Calls Try.prog 39 #[.slice A rs.length c] w fun e w' => ∃ v : Value, e = .returned v ∧ Kd.S (Kd.slice 5 (Kd.int .u8)) 30 w' w.heap.size (fun _ => True) v rs ∧ Below w.heap.size w w' :=
  gangwayref0_CopyCells.calls _ A c rs rs w hC hc (lcells_l0 rs hm rs.length 0 (by omega))
theorem leqc_l0 (a b : List (List Int)) (hl : a.length = b.length) (hm : layLen a < 1000000000) : ∀ (d i : Nat), i + d = a.length → gangwayref0_EqCells.l0 (layLen a + 1 + d + 1) a b (i : Int) = some (decide (a.drop i = b.drop i))
  | 0, i, h => by rw [Nat.add_zero, gangwayref0_EqCells.l0, if_neg (by omega), List.drop_of_length_le (by omega), List.drop_of_length_le (by omega), decide_eq_true rfl]
  | d + 1, i, h => by
    have hi : i < a.length := by omega
    have hx := layLen_next a i hi
    have hc := layLen_count a
    have hb : i < b.length := by omega
    have hdb : b.drop i = b[i] :: b.drop (i + 1) := List.drop_eq_getElem_cons hb
    rw [gangwayref0_EqCells.l0, if_pos (by omega), if_pos (by omega), if_pos (by omega), rd_L2_at a i hi, rd_L2_at b i (by omega), eqB_k _ _ (by omega) _ (by omega), Option.bind_some, up64 (by omega), show layLen a + 1 + (d + 1) = layLen a + 1 + d + 1 by omega, leqc_l0 a b hl hm d (i + 1) (by omega), List.drop_eq_getElem_cons hi, hdb]
    by_cases he : a[i] = b[i]
    · rw [if_pos (decide_eq_true he)]
      exact congrArg some (decide_eq_decide.2 ⟨fun h => by rw [he, h], fun h => (List.cons.inj h).2⟩)
    · rw [if_neg (by simpa using he), decide_eq_false (fun h => he (List.cons.inj h).1)]
theorem lg_eqCells (A : Option Addr) (c : Nat) (a : List (List Int)) (B : Option Addr) (c2 : Nat) (b : List (List Int)) (w : World) (hA : Kd.C (Kd.slice 5 (Kd.int .u8)) w A a.length a) (hc : a.length ≤ c) (hB : Kd.C (Kd.slice 5 (Kd.int .u8)) w B b.length b) (hc2 : b.length ≤ c2) (hm : layLen a < 1000000000) :
    Calls Try.prog 36 #[.slice A a.length c, .slice B b.length c2] w fun e w' => e = .returned (.bool (decide (a = b))) ∧ Drawn0 w w' := by
  refine gangwayref0_EqCells.calls (layLen a + 1 + a.length + 1) A c a B c2 b _ w hA hc hB hc2 ?_
  unfold gangwayref0_EqCells.f
  by_cases hl : a.length = b.length
  · rw [if_pos (by omega)]
    have := leqc_l0 a b hl hm a.length 0 (by omega)
    simpa using this
  · rw [if_neg (by omega), decide_eq_false (fun h => hl (by rw [h]))]
/-- The cells of a literal that a conversion has marked. -/
theorem C_markedL (w : World) (m : Nat × Nat) (l : List Int) (hm : l.length ≤ 9223372036854775807) : (Kd.int .u8).C (w.alloc (.cells (l.map (fun q => Value.int .u8 q)).toArray 5 m)) (some ⟨w.heap.size, 0, none⟩) l.length l := by
  refine ⟨rfl, hm, fun _ => ⟨_, rfl, fun j p hj => ?_⟩⟩
  refine ⟨[.int .u8 p], rfl, rfl, fun i u hu => ?_⟩
  have hi : i = 0 := by
    have := (List.getElem?_eq_some_iff.1 hu).1
    simp at this
    omega
  subst hi
  obtain rfl : Value.int .u8 p = u := by simpa using hu
  have hb := blk_new w (.cells (l.map (fun q => Value.int .u8 q)).toArray 5 m)
  have ha : (⟨w.heap.size, 0, none⟩ : Addr).add (j * (Kd.int .u8).sz + 0) = ⟨w.heap.size, j, none⟩ := by
    show Addr.add _ (j * 1 + 0) = _
    unfold Addr.add
    simp
    try omega
  rw [ha]
  unfold World.cell?
  simp only [hb]
  simp [hj]

end Go.Proofs.Ytpkhpfgojhojaaa.PLg

namespace Go.Proofs.Ytpkhpfgojhojaaa.PLg
open Go.RowKit Go.Proofs.YtpkhpfgojhojaaaW.PrintWords Go.Proofs.YtpkhpfgojhojaaaW.PrintLast Go.Proofs.YtpkhpfgojhojaaaW.PrintMore
attribute [local go_sem] max2_int min2_int max_two min_two max_three min_three max_four min_four
set_option linter.unusedVariables false
set_option linter.unusedSimpArgs false
-- FUNCTION: gangway/gangwaylaw12.LogLasts
-- IMPORT: Derived.Test.@N@WOwn
-- IMPORT: Derived.Test.@N@DLastspure
-- IMPORT: Derived.Test.@N@DLwakes
-- IMPORT: Derived.Test.@N@DLcells
-- IMPORT: Derived.Test.@N@DActcells
set_option maxHeartbeats 16000000 in
set_option maxRecDepth 100000 in
theorem gangwaylaw12_LogLasts.walk (a0 : Int) (A1 A2 : Option Addr) (c1 c2 : Nat) (l1 : List S45) (l2 : List S65) (w : World) (h1 : Kd.C k45 w A1 l1.length l1) (hc1 : l1.length ≤ c1) (h2 : Kd.C k65 w A2 l2.length l2) (hc2 : l2.length ≤ c2) :
    Calls Try.prog 6 #[.agg #[.int .i64 a0, .slice A1 l1.length c1, .slice A2 l2.length c2]] w fun e w' => e = .returned (.bool true) ∧ Below w.heap.size w w' := by
  have H1 := Aside0.mk h1
  have H2 := Aside0.mk h2
  have HC1 := Aside0.mk hc1
  have HC2 := Aside0.mk hc2
  obtain ⟨k, hv, hhv⟩ := heavy_ex a0 l1 l2
  have HHV := Aside0.mk hhv
  have hmax := h2.2.1
  have hus := Try.underlying60
  have hua := Try.underlying65
  have HB0 := Aside0.mk (below_alloc (Below.refl w.heap.size w) (.cells #[.int .i64 a0, .slice A1 l1.length c1, .slice A2 l2.length c2] 60))
  have HS0 := Aside0.mk (blk_new w (.cells #[.int .i64 a0, .slice A1 l1.length c1, .slice A2 l2.length c2] 60))
  clear h1 h2 hc1 hc2 hhv
  cases hv
  all_goals
    go_enter Try.func6, Try.ntmps6
    go_wp2_with fail
    refine (gangwaylaw12_heavy.calls k a0 A1 c1 l1 A2 c2 l2 _ _ (Kd.C_alloc H1.out _) HC1.out (Kd.C_alloc H2.out _) HC2.out HHV.out).mono ?_
    rintro e' w1 ⟨rfl, hb⟩
    have HB1 := Aside0.mk (below_step HB0.out hb)
    have HS1 := Aside0.mk (blk_below HS0.out hb)
    clear hb
  · obtain ⟨E0, hE0⟩ : ∃ E0, E0 = List.replicate (1500 * 64) (0 : Int) := ⟨_, rfl⟩
    have HH0 : Aside0 (Holds E0 0 []) := ⟨by rw [hE0]; exact holds_zero 1500 (by decide)⟩
    have HLE : Aside0 (E0.length = 96000) := ⟨by rw [hE0, List.length_replicate]⟩
    have HE0 := Aside0.mk hE0
    clear hE0
    go_wp2_with fail
    refine (lg_Disk 1500 (by decide) (by decide) none 0 0 [] _ (Kd.C_nil _ _) (fun _ h => by cases h) (fun _ h => by cases h)).mono ?_
    rintro e' w2 ⟨d, rfl, hd, hb⟩
    rw [← HE0.out] at hd
    have HD2 := Aside0.mk (hd.bound.mono (ok' := fun k => w1.heap.size ≤ k) (fun k hk => hk.2.1))
    have HNB : Aside0 (w.heap.size < w1.heap.size ∧ w1.heap.size ≤ w2.heap.size) := ⟨blk_lt HS1.out, hb.size⟩
    have HB2 := Aside0.mk (below_step HB1.out hb)
    have HS2 := Aside0.mk (blk_below HS1.out hb)
    have HLT : Aside0 (w.heap.size < w2.heap.size) := ⟨blk_lt HS2.out⟩
    clear hd hb
    go_wp2
    go_loopw [3, 4, 5] (fun v3 v4 v5 w' => ∃ (i d nb : Nat) (rs : List (List Int)) (E : List Int), i ≤ 8 ∧ i ≤ l2.length ∧ v3 = .pointer (some ⟨d, 0, none⟩) ∧ v5 = .int .i64 i ∧ Aside0 (Holds E (i : Int) rs) ∧ Aside0 (E.length = 96000) ∧ Aside0 (layLen rs ≤ i * 408) ∧ Aside0 (DkAt w' nb (fun k => nb ≤ k) d (Dk.new E [])) ∧ Aside0 (w.heap.size < nb ∧ nb ≤ w'.heap.size) ∧ Aside0 (Kd.R (Kd.slice 5 (Kd.int .u8)) 30 w' w.heap.size (fun k => k < nb) v4 rs) ∧ Aside0 (w'.heap[w.heap.size]? = some (.cells #[.int .i64 a0, .slice A1 l1.length c1, .slice A2 l2.length c2] 60 (0, 0))) ∧ Aside0 (Below w.heap.size w w')) (fun _ _ v5 _ => 8 - (intOf v5).toNat)
    case atStart => exact ⟨0, d, w1.heap.size, [], E0, Nat.zero_le _, Nat.zero_le _, rfl, rfl, HH0, HLE, ⟨Nat.zero_le _⟩, HD2, HNB, ⟨Kd.R_nil _ _ _ _ _⟩, HS2, HB2⟩
    case round =>
      clear HH0 HLE HD2 HS2 HB2 HLT HNB
      obtain ⟨i, d, nb, rs, E, h8, hi, rfl, rfl, HH, HLE, HLL, HD, HNB, HR, HS, HB⟩ := hrel
      have hs2 := (blk_cell HS.out 2).trans rfl
      obtain ⟨Ar, cr, rfl⟩ := Kd.R_slice HR.out
      by_cases hlt : i < l2.length
      · by_cases h88 : i < 8
        · obtain ⟨ad, AR, cR, P, cp, rfl, hx0, hx1, hx2, hRc, hRC, hx3, hpc, hpC⟩ := act12_cells H2.out HB.out i hlt
          obtain ⟨⟨f0, f1, R, ps⟩, hact⟩ : ∃ q, q = l2.getD i z65 := ⟨_, rfl⟩
          rw [← hact] at hx0 hx1 hx2 hx3 hpc hpC hRc hRC
          clear hact
          simp only at hx0 hx1 hx2 hx3 hpc hpC hRc hRC
          have HPC := Aside0.mk hpc
          have HPP0 := Aside0.mk hpC
          have HRCC := Aside0.mk hRc
          have HRC0 := Aside0.mk hRC
          have HD5 := Aside0.mk (((HD.out.bound).mono (ok' := fun k => nb ≤ k ∧ k < wr.heap.size) (fun k hk => ⟨hk.1, hk.2.2⟩)).below (below_alloc (Below.refl _ _) (.cells #[.int .i64 f0, .int .i64 f1, .slice AR R.length cR, .slice P ps.length cp] 65)))
          have HR5 := Aside0.mk (Kd.R_alloc HR.out (.cells #[.int .i64 f0, .int .i64 f1, .slice AR R.length cR, .slice P ps.length cp] 65))
          have HS5 := Aside0.mk (blk_alloc HS.out (.cells #[.int .i64 f0, .int .i64 f1, .slice AR R.length cR, .slice P ps.length cp] 65))
          have HA5 := Aside0.mk (blk_new wr (.cells #[.int .i64 f0, .int .i64 f1, .slice AR R.length cR, .slice P ps.length cp] 65))
          have HB5 := Aside0.mk (below_alloc HB.out (.cells #[.int .i64 f0, .int .i64 f1, .slice AR R.length cR, .slice P ps.length cp] 65))
          have HN5 : Aside0 (nb ≤ (wr.alloc (.cells #[.int .i64 f0, .int .i64 f1, .slice AR R.length cR, .slice P ps.length cp] 65)).heap.size) := ⟨by rw [World.size_alloc]; have := HNB.out.2; omega⟩
          have HM5 : Aside0 (wr.heap.size < (wr.alloc (.cells #[.int .i64 f0, .int .i64 f1, .slice AR R.length cR, .slice P ps.length cp] 65)).heap.size) := ⟨by rw [World.size_alloc]; omega⟩
          clear hRc hRC hpc hpC
          go_wp2_with fail
          refine (lg_Open d _ nb _ (Dk.new E []) i rs (layP rs) HD5.out HN5.out rfl (by show 128 ≤ E.length; rw [HLE.out]; decide) (holds_opens HH.out) (lays rs (by have := HLL.out; omega))).mono ?_
          rintro e' w6 ⟨g, N, v, rfl, hlg, hN, hN2, hS, hb⟩
          obtain ⟨Av, cv, rfl⟩ := Kd.S_slice hS
          obtain ⟨_, hvc, hvC⟩ := Kd.S_reads' hS
          have HL6 := Aside0.mk hlg
          have HNN := Aside0.mk hN2
          have HGN : Aside0 (g < N ∧ g ≠ wr.heap.size ∧ nb ≤ g) := ⟨by
            obtain ⟨_, _, _, _, _, _, _, _, _, ho, hg, _⟩ := hlg
            refine ⟨ho.2, ?_, hg⟩
            have := ho.1
            rw [World.size_alloc] at this
            omega⟩
          have HV6 := Aside0.mk (Kd.R_mono (Kd.R_bound (Kd.S_R hS)) (ok' := fun k => N ≤ k ∧ k < w6.heap.size) (fun k hk => ⟨hk.2.1, hk.2.2.1⟩))
          have HVC := Aside0.mk hvc
          have HVV6 := Aside0.mk hvC
          have HR6 := Aside0.mk (Kd.R_below HR5.out hb)
          have HS6 := Aside0.mk (blk_below HS5.out hb)
          have HA6 := Aside0.mk (blk_below HA5.out hb)
          have HB6 := Aside0.mk (below_step HB5.out hb)
          have HN6 := Aside0.mk (Nat.le_trans HN5.out hb.size)
          have HM6 := Aside0.mk (Nat.lt_of_lt_of_le HM5.out hb.size)
          clear hlg hN hN2 hS hb hvC hx0 hx1 hx2 hx3
          have ha2 := (blk_cell HA6.out 2).trans rfl
          go_wp2_with (first | (go_at_call 35; refine (lg_num _ _).mono ?_; rintro e' w' ⟨rfl, rfl⟩))
          obtain ⟨_, hrc, hrC⟩ := Kd.R_reads' HR6.out
          refine (lg_eqCells Av cv rs Ar cr rs _ HVV6.out HVC.out hrC hrc (by have := HLL.out; omega)).mono ?_
          rintro e' w7 ⟨rfl, nd, hw7⟩
          rw [decide_eq_true rfl]
          have hb : Below w6.heap.size w6 w7 := hw7 ▸ pw_below_drewN (Below.refl _ _) nd
          have HW7 := Aside0.mk hb.size
          have HL7 := Aside0.mk (HL6.out.below hb)
          have HV7 := Aside0.mk (Kd.R_below HV6.out hb)
          have HS7 := Aside0.mk (blk_below HS6.out hb)
          have HA7 := Aside0.mk (blk_below HA6.out hb)
          have HB7 := Aside0.mk (below_step HB6.out hb)
          have HN7 := Aside0.mk (Nat.le_trans HN6.out hb.size)
          have HM7 := Aside0.mk (Nat.lt_of_lt_of_le HM6.out hb.size)
          have HRL : Aside0 (rs.length ≤ 1000) := ⟨by have := layLen_count rs; have := HLL.out; omega⟩
          clear hb hw7 hrc hrC ha2 hs2
          have hw1 : wrap64 ((rs.length : Int) + 1) = (rs.length : Int) + 1 := w64 _ (by have := HRL.out; omega)
          have hg1 : decide ((rs.length : Int) > (rs.length : Int) + 1) = false := decide_eq_false (by omega)
          have ha2 := (blk_cell HA7.out 2).trans rfl
          by_cases h4 : (R.length : Int) > 400
          · have t4 : decide ((R.length : Int) > 400) = true := decide_eq_true h4
            have t4' : decide (400 < R.length) = true := decide_eq_true (by omega)
            clear h4
            go_wp2
            go_ret
            exact ⟨rfl, HB7.out⟩
          · have t4 : decide ((R.length : Int) > 400) = false := decide_eq_false h4
            have t4' : decide (400 < R.length) = false := decide_eq_false (by omega)
            have H400 : Aside0 (R.length ≤ 400) := ⟨by omega⟩
            have HLY : Aside0 (layLen (rs ++ [R]) ≤ (i + 1) * 408) := ⟨by rw [layLen_snoc]; have := HLL.out; omega⟩
            have HI8 : Aside0 (i ≤ 7) := ⟨by omega⟩
            have HLY2 : Aside0 (Lays (rs ++ [R]) (layP (rs ++ [R]))) := ⟨lays _ (by have := HLY.out; have := HI8.out; omega)⟩
            clear h4
            go_wp2_with fail
            refine (lg_copyB AR cR R _ (Kd.C_below HRC0.out HB7.out) HRCC.out (by have := H400.out; omega)).mono ?_
            rintro e' w8 ⟨v, rfl, hR, hb⟩
            obtain ⟨A8, c8, rfl, hc8, hC8⟩ := Kd.R_reads hR
            have HC8 := Aside0.mk hC8
            have HW8 : Aside0 (w6.heap.size ≤ w8.heap.size) := ⟨by have := hb.size; have := HW7.out; omega⟩
            have HCC8 := Aside0.mk hc8
            have HL8 := Aside0.mk (HL7.out.below hb)
            have HV8 := Aside0.mk (Kd.R_below HV7.out hb)
            have HS8 := Aside0.mk (blk_below HS7.out hb)
            have HA8 := Aside0.mk (blk_below HA7.out hb)
            have HB8 := Aside0.mk (below_step HB7.out hb)
            have HN8 := Aside0.mk (Nat.le_trans HN7.out hb.size)
            have HM8 := Aside0.mk (Nat.lt_of_lt_of_le HM7.out hb.size)
            clear hR hb hc8 hC8 ha2
            go_wp2_with fail
            refine (lg_Append g A8 c8 R _ nb _ d ⟨Dk.new E [], i, rs, true⟩ (layP (rs ++ [R])) HL8.out HN8.out HC8.out HCC8.out HLY2.out (by show rs.length ≤ 1000000; have := HRL.out; omega) (by have := H400.out; omega)).mono ?_
            rintro e' w9 ⟨rfl, hlg, hk, hb⟩
            rw [become_ok (Dk.new E []) i rs (rs ++ [R]) true rfl HLE.out (by have := HLY.out; have := HI8.out; omega)] at hlg
            rw [become_ok (Dk.new E []) i rs (rs ++ [R]) true rfl HLE.out (by have := HLY.out; have := HI8.out; omega)]
            have HL9 := Aside0.mk hlg
            have HV9 := Aside0.mk (Kd.R_kept HV8.out hk (fun k hk he => by have := HGN.out.1; have := hk.1; omega))
            have HA9 := Aside0.mk (blk_kept HA8.out hk (fun he => HGN.out.2.1 he.symm))
            have HS9 := Aside0.mk ((hb.block _ HNB.out.1).trans HS8.out)
            have HB9 := Aside0.mk (HB8.out.trans (hb.mono (Nat.le_of_lt HNB.out.1)))
            have HN9 := Aside0.mk (Nat.le_trans HN8.out hb.size)
            have HM9 := Aside0.mk (Nat.lt_of_lt_of_le HM8.out hb.size)
            obtain ⟨k2, hd, hhd, hdl, hha⟩ := head_ex ((i : Int) + 1) (layLen (rs ++ [R]) : Int) (by omega) (by omega) (by omega) (by have := HLY.out; have := HI8.out; omega)
            obtain ⟨hs0, y', hs1, hyo, hyS, hyl, hyH⟩ := lasts_sync E i rs (rs ++ [R]) hd HH.out HLE.out (by have := HLY.out; have := HI8.out; omega) hha hdl
            have HS0 := Aside0.mk hs0
            have HS1 := Aside0.mk hs1
            have HYO := Aside0.mk hyo
            have HYS := Aside0.mk hyS
            have HYL := Aside0.mk hyl
            have HYH := Aside0.mk hyH
            have HHD : Aside0 (log_head.f k2 ((i : Int) + 1) (layP (rs ++ [R])).length = some hd) := ⟨by rw [length_layP]; exact hhd⟩
            have HV8' := Aside0.mk (HV8.out)
            clear hlg hk hb hhd hdl hha hs0 hs1 hyo hyS hyl hyH
            go_wp2_with (first | (go_at_call 35; refine (lg_num _ _).mono ?_; rintro e' w' ⟨rfl, rfl⟩))
            refine (log_Log_Sync.walk k2 g _ nb _ d ⟨Dk.new E [], i, rs ++ [R], false⟩ (layP (rs ++ [R])) hd HL9.out HN9.out HLY2.out ⟨by show (0 : Int) ≤ i; omega, by show (i : Int) < 9223372036854775807; have := HI8.out; omega⟩ HHD.out).mono ?_
            rintro e' w10 ⟨rfl, hlg, hk, hb⟩
            rw [HS1.out] at hlg
            rw [HS0.out]
            have HL10 := Aside0.mk hlg
            have HA10 := Aside0.mk (blk_kept HA9.out hk (fun ho => ho.elim (fun h => by have := h.1; rw [World.size_alloc] at this; omega) (fun h => by have := HM8.out; omega)))
            have HV10 := Aside0.mk (Kd.R_kept HV9.out hk (fun k hk ho => ho.elim (fun h => by have := h.2; have := hk.1; omega) (fun h => by have := hk.2; have := HW8.out; omega)))
            have HS10 := Aside0.mk ((hb.block _ HNB.out.1).trans HS9.out)
            have HB10 := Aside0.mk (HB9.out.trans (hb.mono (Nat.le_of_lt HNB.out.1)))
            have HN10 := Aside0.mk (Nat.le_trans HN9.out hb.size)
            have HM10 := Aside0.mk (Nat.lt_of_lt_of_le HM9.out hb.size)
            obtain ⟨_, _, hvC⟩ := Kd.R_reads' HV10.out
            have HVV := Aside0.mk hvC
            have HCB : Aside0 (∀ W, Below w10.heap.size w10 W → W.cell? ⟨wr.heap.size, 2, none⟩ = some (.slice AR R.length cR)) := ⟨fun W hW => (blk_cell (blk_below HA10.out hW) 2).trans rfl⟩
            clear hlg hk hb hvC
            go_upto_region 17 with (first | (go_at_call 35; refine (lg_num _ _).mono ?_; rintro e' w' ⟨rfl, rfl⟩))
            have HQ0 : Aside0 (Below w10.heap.size w10 w10.drew) := ⟨below_drew (Below.refl _ _)⟩
            refine start_ (n := 8) (S := fun w' => w'.cell? ⟨wr.heap.size, 2, none⟩ = some (.slice AR R.length cR)) (ds := []) #[false, false, false, false, false, false, false, false] (by kernel_rfl) rfl rfl (HCB.out _ HQ0.out) (fun hHeld => ?_)
            refine pure_ (i := 0) (N := some 85) (v := ?_) (a' := ?_) #[true, false, false, false, false, false, false, false] rfl rfl (by kernel_rfl) (fun _ _ _ h => h) (Or.inl ⟨by rfl, ?_⟩) ?_ ?_
            rotate_left
            · intro w'
              go_simp
              with_reducible rfl
            rotate_left
            · simp only [Act.put, List.setIfInBounds_toArray, List.set_cons_zero, List.set_cons_succ, i64_w, i32_w]
              rfl
            refine pure_ (i := 2) (N := some 87) (v := ?_) (a' := ?_) #[true, false, true, false, false, false, false, false] rfl rfl (by kernel_rfl) (fun _ _ _ h => h) (Or.inl ⟨by rfl, ?_⟩) ?_ ?_
            rotate_left
            · intro w'
              go_simp
              with_reducible rfl
            rotate_left
            · simp only [Act.put, List.setIfInBounds_toArray, List.set_cons_zero, List.set_cons_succ, i64_w, i32_w]
              rfl
            refine take_ (i := 3) (N := some 88) (v := ?_) (a' := ?_) #[true, false, true, true, false, false, false, false] rfl rfl (by kernel_rfl) (fun _ _ _ h => h) (Or.inl ⟨by rfl, ?_⟩) hHeld ?_ ?_
            rotate_left
            · intro w' s0
              go_simp
              with_reducible rfl
            rotate_left
            · simp only [Act.put, List.setIfInBounds_toArray, List.set_cons_zero, List.set_cons_succ, i64_w, i32_w]
              rfl
            refine one_ (i := 1) (N := some 86) #[true, true, true, true, false, false, false, false] rfl rfl (by kernel_rfl) (by decide) (fun K hK => ?_)
            refine goes_ Try.func39 (by kernel_rfl) rfl #[.slice Av rs.length cv] (by rfl) rfl rfl (by simp only [List.map_toArray, List.map_cons, List.map_nil]; rfl) ?_
            with_reducible refine (lg_copyCells Av cv rs _ (Kd.C_below HVV.out HQ0.out) HVC.out (by have := HLL.out; omega)).mono ?_
            rintro e w11 ⟨v11, rfl, hS, hb⟩
            refine ⟨_, rfl, ?_⟩
            obtain ⟨A11, c11, rfl⟩ := Kd.S_slice hS
            have HT11 := Aside0.mk (Kd.S_lower hS HQ0.out.size)
            have HQ11 := Aside0.mk (below_step HQ0.out hb)
            clear hS hb
            refine hK.out _ _ (HCB.out _ HQ11.out) (fun hHeld => ?_)
            clear hK K
            refine norm_ (a' := ?_) ?_ ?_
            rotate_left
            · show Act.put _ (some 86) _ = _
              simp only [Act.put, List.setIfInBounds_toArray, List.set_cons_zero, List.set_cons_succ, i64_w, i32_w]
              rfl
            refine one_ (i := 4) (N := some 89) #[true, true, true, true, true, false, false, false] rfl rfl (by kernel_rfl) (by decide) (fun K hK => ?_)
            refine goes_ Try.func20 (by kernel_rfl) rfl #[.slice AR R.length cR] (by rfl) rfl rfl (by simp only [List.map_toArray, List.map_cons, List.map_nil]; rfl) ?_
            with_reducible refine (lg_copyB AR cR R _ (Kd.C_below HRC0.out (below_step HB10.out HQ11.out)) HRCC.out (by have := H400.out; omega)).mono ?_
            rintro e w12 ⟨v12, rfl, hR, hb⟩
            refine ⟨_, rfl, ?_⟩
            obtain ⟨A12, c12, rfl⟩ := Kd.R_slice hR
            have HT12 := Aside0.mk (Kd.S_elder' HT11.out (Kd.R_base hR) hb)
            have HR12 := Aside0.mk (Kd.R_lower hR HQ11.out.size)
            have HQ12 := Aside0.mk (below_step HQ11.out hb)
            clear hR hb
            refine hK.out _ _ (HCB.out _ HQ12.out) (fun hHeld => ?_)
            clear hK K
            refine norm_ (a' := ?_) ?_ ?_
            rotate_left
            · show Act.put _ (some 89) _ = _
              simp only [Act.put, List.setIfInBounds_toArray, List.set_cons_zero, List.set_cons_succ, i64_w, i32_w]
              rfl
            refine one_ (i := 5) (N := some 90) #[true, true, true, true, true, true, false, false] rfl rfl (by kernel_rfl) (by decide) (fun K hK => ?_)
            refine value_ (w1 := ?_) (v := ?_) (by rfl) rfl ?_ ?_
            rotate_left 2
            · go_simp
              constructor
              · rfl
              · rfl
            refine hK.out _ _ (HCB.out _ (below_alloc HQ12.out _)) (fun hHeld => ?_)
            clear hK K
            refine norm_ (a' := ?_) ?_ ?_
            rotate_left
            · show Act.put _ (some 90) _ = _
              simp only [Act.put, List.setIfInBounds_toArray, List.set_cons_zero, List.set_cons_succ, i64_w, i32_w]
              rfl
            refine one_ (i := 6) (N := some 91) #[true, true, true, true, true, true, true, false] rfl rfl (by kernel_rfl) (by decide) (fun K hK => ?_)
            refine Kd.S_append_step (Kd.slice 5 (Kd.int .u8)) (w0 := w10) w10.heap.size (by rfl) (.tmp 86) (.tmp 90) 63 30 (.slice none 0 0) 24 rfl Try.underlying63 info30 rfl (by decide) (by omega) (.slice A11 rs.length c11) rs R [.slice A12 R.length c12] (fun _ => True) (fun k_ => some k_ = (.slice A12 R.length c12 : Value).ownBlock) rfl rfl ?aP (fun k_ hk_ => ((Kd.R_mono (ok' := fun k_ => ((fun _ => True)) k_ ∧ some k_ ≠ (.slice A11 rs.length c11 : Value).ownBlock) (Kd.R_apart' (HR12.out) (Kd.S_typed HT12.out) (by decide)) (fun k_ hk => ⟨trivial, hk.2⟩))).1 k_ hk_.symm) ?aF ?aO ?aB ?aS ?aL ?_
            (case aP => exact Kd.M_row (Kd.R_mono (Kd.R_tight rfl (Kd.R_mono (ok' := fun k_ => ((fun _ => True)) k_ ∧ some k_ ≠ (.slice A11 rs.length c11 : Value).ownBlock) (Kd.R_apart' (HR12.out) (Kd.S_typed HT12.out) (by decide)) (fun k_ hk => ⟨trivial, hk.2⟩))) (fun _ h_ => h_)))
            (case aB => exact HQ12.out)
            (case aF => exact (fun _ _ => trivial))
            (case aO => exact Kd.S_mono HT12.out (fun k_ hk => ⟨trivial, fun e_ => hk.2 e_⟩))
            (case aS => exact HQ12.out.size)
            (case aL => have := HRL.out; omega)
            intro v13 w13 ho hb hg hat
            obtain ⟨A13, c13, rfl⟩ := Kd.S_slice ho
            have HT13 := Aside0.mk (Kd.S_R ho)
            have HQ13 := Aside0.mk hb
            clear ho hb hg hat
            refine hK.out _ _ (HCB.out _ HQ13.out) (fun hHeld => ?_)
            clear hK K
            refine norm_ (a' := ?_) ?_ ?_
            rotate_left
            · show Act.put _ (some 91) _ = _
              simp only [Act.put, List.setIfInBounds_toArray, List.set_cons_zero, List.set_cons_succ, i64_w, i32_w]
              rfl
            refine pure_ (i := 7) (N := some 4) (v := ?_) (a' := ?_) #[true, true, true, true, true, true, true, true] rfl rfl (by kernel_rfl) (fun _ _ _ h => h) (Or.inl ⟨by rfl, ?_⟩) ?_ ?_
            rotate_left
            · intro w'
              go_simp
              with_reducible rfl
            rotate_left
            · simp only [Act.put, List.setIfInBounds_toArray, List.set_cons_zero, List.set_cons_succ, i64_w, i32_w]
              rfl
            refine done_ (by kernel_rfl) ?_
            have HL13 := Aside0.mk (HL10.out.below HQ13.out)
            have HA13 := Aside0.mk (blk_below HA10.out HQ13.out)
            have HS13 := Aside0.mk (blk_below HS10.out HQ13.out)
            have HB13 := Aside0.mk (below_step HB10.out HQ13.out)
            have HN13 := Aside0.mk (Nat.le_trans HN10.out HQ13.out.size)
            have HM13 := Aside0.mk (Nat.lt_of_lt_of_le HM10.out HQ13.out.size)
            have HGB : Aside0 (g < w10.heap.size) := ⟨HL10.out.lt⟩
            have HTB := Aside0.mk (Kd.R_mono (Kd.R_bound HT13.out) (ok' := fun k => w10.heap.size ≤ k ∧ k < w13.heap.size) (fun k hk => ⟨hk.2.1, hk.2.2.1⟩))
            clear HVV HCB HV6 HV7 HV8 HV9 HV10 HT11 HT12 HR12 HQ11 HQ12 hHeld HL6 HL7 HL8 HL9 HA6 HA7 HA8 HA9 HS6 HS7 HS8 HS9 HB6 HB7 HB8 HB9 HR5 HR6 HR
            obtain ⟨lat, hlat⟩ : ∃ l : List Int, l = [108, 97, 116, 101, 114] := ⟨_, rfl⟩
            have hcv := fun w : World => Lib.run_convert_bytes_const (P := Try.prog) w 30 5 #[.int .u8 108, .int .u8 97, .int .u8 116, .int .u8 101, .int .u8 114] 5 5 Try.underlying30 Try.underlying5
            go_wp2_with fail
            have hLT : layLen ((rs ++ [R]) ++ [[108, 97, 116, 101, 114]]) = layLen (rs ++ [R]) + 13 := layLen_snoc _ _
            have HLL2 : Aside0 (layLen ((rs ++ [R]) ++ [[108, 97, 116, 101, 114]]) ≤ 40000) := ⟨by rw [hLT]; have := HLY.out; have := HI8.out; omega⟩
            have HLY3 : Aside0 (Lays ((rs ++ [R]) ++ [[108, 97, 116, 101, 114]]) (layP ((rs ++ [R]) ++ [[108, 97, 116, 101, 114]]))) := ⟨lays _ (by have := HLL2.out; omega)⟩
            clear hLT
            refine (lg_Append g _ 5 [108, 97, 116, 101, 114] _ nb _ d ⟨y', (i : Int) + 1, rs ++ [R], true⟩ (layP ((rs ++ [R]) ++ [[108, 97, 116, 101, 114]])) (HL13.out.below (below_alloc (Below.refl _ _) _)) (by rw [World.size_alloc]; have := HN13.out; omega) (C_markedL w13 (5, 6) [108, 97, 116, 101, 114] (by decide)) (Nat.le_refl _) HLY3.out (by show (rs ++ [R]).length ≤ 1000000; rw [List.length_append]; have := HRL.out; show rs.length + 1 ≤ 1000000; omega) (by decide)).mono ?_
            rintro e' w14 ⟨rfl, hlg, hk, hb⟩
            rw [become_ok y' ((i : Int) + 1) (rs ++ [R]) ((rs ++ [R]) ++ [[108, 97, 116, 101, 114]]) true HYO.out HYL.out HLL2.out] at hlg
            rw [become_ok y' ((i : Int) + 1) (rs ++ [R]) ((rs ++ [R]) ++ [[108, 97, 116, 101, 114]]) true HYO.out HYL.out HLL2.out]
            have HL14 := Aside0.mk hlg
            have HA14 := Aside0.mk (blk_kept (blk_alloc HA13.out _) hk (fun he => HGN.out.2.1 he.symm))
            have HT14 := Aside0.mk (Kd.R_kept (Kd.R_alloc HTB.out _) hk (fun k hk he => by have := HGB.out; have := hk.1; omega))
            have HS14 := Aside0.mk ((hb.block _ HNB.out.1).trans (blk_alloc HS13.out _))
            have HB14 := Aside0.mk ((below_alloc HB13.out _).trans (hb.mono (Nat.le_of_lt HNB.out.1)))
            have HSZ14 : Aside0 (w13.heap.size ≤ w14.heap.size) := ⟨by have := hb.size; rw [World.size_alloc] at this; omega⟩
            clear hlg hk hb
            have ha3 := (blk_cell HA14.out 3).trans rfl
            go_wp2_with (first | (go_at_call 35; refine (lg_num _ _).mono ?_; rintro e' w' ⟨rfl, rfl⟩))
            obtain ⟨okd, hdk⟩ := HL14.out.disk
            have hcr : y'.crash ps = y'.E := by
              have hm := crash_mix y' hdk.fits ps
              rw [HYS.out] at hm
              exact mix_same hm (by rw [HYL.out])
            have HCR := Aside0.mk hcr
            refine (lg_Again d P cp ps _ nb okd y' hdk (Kd.C_below HPP0.out HB14.out) HPC.out (by rw [hcr, HYL.out]; decide)).mono ?_
            rintro e' w15 ⟨d', rfl, hd', hb⟩
            rw [HCR.out] at hd'
            have HD15 := Aside0.mk (hd'.bound.mono (ok' := fun k => w14.heap.size ≤ k) (fun k hk => hk.2.1))
            have HT15 := Aside0.mk (Kd.R_mono (Kd.R_lower (Kd.R_below HT14.out hb) (Nat.le_of_lt (Nat.lt_of_lt_of_le HNB.out.1 HN10.out))) (ok' := fun k => k < w14.heap.size) (fun k hk => Nat.lt_of_lt_of_le hk.2 HSZ14.out))
            have HS15 := Aside0.mk (blk_below HS14.out hb)
            have HB15 := Aside0.mk (below_step HB14.out hb)
            have HN15 : Aside0 (w.heap.size < w14.heap.size ∧ w14.heap.size ≤ w15.heap.size) := ⟨Nat.lt_of_lt_of_le HNB.out.1 (Nat.le_trans HN13.out HSZ14.out), hb.size⟩
            clear hd' hb hcr hdk ha3
            go_wp2
            go_roundw
            case rel => exact ⟨i + 1, d', w14.heap.size, rs ++ [R], y'.E, by omega, by omega, rfl, by go_num, HYH, HYL, HLY, HD15, HN15, ⟨by have h := HT15.out; rw [List.length_append] at h; exact h⟩, HS15, HB15⟩
            case measure => simp [intOf]; omega
        · have hge : decide (i < 8) = false := decide_eq_false h88
          go_wp2_with (first | (go_at_call 41; refine (lg_wakes _).mono ?_; rintro e' w9 ⟨rfl, hb⟩; have HX := Aside0.mk (below_step HB.out hb); clear hb))
          go_ret
          exact ⟨rfl, HX.out⟩
      · have hge : decide (i < l2.length) = false := decide_eq_false hlt
        go_wp2_with (first | (go_at_call 41; refine (lg_wakes _).mono ?_; rintro e' w9 ⟨rfl, hb⟩; have HX := Aside0.mk (below_step HB.out hb); clear hb))
        go_ret
        exact ⟨rfl, HX.out⟩
  · go_wp2
    go_ret
    exact ⟨rfl, HB1.out⟩

end Go.Proofs.Ytpkhpfgojhojaaa.PLg

namespace Go.Proofs.Ytpkhpfgojhojaaa.PLg
open Go.RowKit Go.Proofs.YtpkhpfgojhojaaaW.PrintWords Go.Proofs.YtpkhpfgojhojaaaW.PrintLast Go.Proofs.YtpkhpfgojhojaaaW.PrintMore
attribute [local go_sem] max2_int min2_int max_two min_two max_three min_three max_four min_four
set_option linter.unusedVariables false
set_option linter.unusedSimpArgs false
-- IMPORT: Derived.Test.@N@WOwn
-- IMPORT: Derived.Test.@N@OpensLg
-- IMPORT: Derived.Test.@N@DLawlasts
theorem logLasts_row (cs : Array Value) (x : Int × List S45 × List S65) (w : World) (h : ok60 x) (hk : (Kd.pair (Kd.int .i64) (Kd.pair (Kd.slice 45 k45) (Kd.slice 65 k65))).K w x cs.toList) :
    Calls Try.prog 6 #[.agg cs] w fun e w' => e = .returned (.bool true) ∧ Below w.heap.size w w' := by
  obtain ⟨a0, l1, l2⟩ := x
  obtain ⟨q1, q2, e, h1, q3, q4, rfl, ⟨A1, c1, rfl, hl1, hC1⟩, ⟨A2, c2, rfl, hl2, hC2⟩⟩ := hk
  have h1' : q1 = [.int .i64 a0] := h1
  subst h1'
  obtain rfl : cs = #[.int .i64 a0, .slice A1 l1.length c1, .slice A2 l2.length c2] := Array.ext' e
  exact gangwaylaw12_LogLasts.walk a0 A1 A2 c1 c2 l1 l2 w hC1 hl1 hC2 hl2

end Go.Proofs.Ytpkhpfgojhojaaa.PLg
