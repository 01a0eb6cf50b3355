/- Parts of one proof, merged by merge.py of this repo: walks over the given program and plain facts, used by the law of the file YtjghephnjkffcaaCTreeData. -/
import Derived.Test.YtjghephnjkffcaaMTreeData11
import Derived.Test.YtjghephnjkffcaaMTreeData10
import Derived.Test.YtjghephnjkffcaaMTreeData8
import Derived.Test.YtjghephnjkffcaaMTreeData5
import Derived.Test.YtjghephnjkffcaaMTreeData12
import Derived.Test.YtjghephnjkffcaaMTreeData4
import Derived.Test.YtjghephnjkffcaaMTreeData6
import Derived.Test.YtjghephnjkffcaaMTreeData9
import Derived.Test.YtjghephnjkffcaaMTreeData2
import Derived.Deep.RegionHeld3
namespace Go.Proofs.Ytjghephnjkffcaa.PCk
open Go.RowKit Go.Proofs.YtjghephnjkffcaaW.PrintWords Go.Proofs.YtjghephnjkffcaaW.PrintLast Go.Proofs.YtjghephnjkffcaaW.PrintMore
attribute [local go_sem] max2_int min2_int max_two min_two max_three min_three max_four min_four
set_option linter.unusedVariables false
set_option linter.unusedSimpArgs false
-- IMPORT: Derived.Test.@N@DMaysim
-- IMPORT: Derived.Test.@N@DWrite
-- IMPORT: Derived.Test.@N@DRead
-- IMPORT: Derived.Test.@N@DCut
/-! ### What Write, Read, Cut tell of a file's bytes. -/
theorem wroteB_len (old : List Int) (t : Nat) (b : List Int) : (wroteB old t b).length = max old.length (t + b.length) := by
  unfold wroteB; rw [length_splice _ _ _ (by rw [length_sizedL]; omega), length_sizedL]
theorem sizedL_same (l : List Int) : sizedL l l.length = l := by unfold sizedL; simp
theorem readL_all (l : List Int) (n : Nat) (h : l.length ≤ n) : readL l 0 n = l := by
  unfold readL; rw [Nat.zero_min, List.drop_zero, Nat.sub_zero, Nat.min_eq_right h, List.take_length]
theorem readL_wrote (old : List Int) (t : Nat) (b : List Int) (hb : 0 < b.length) : readL (wroteB old t b) t b.length = b := by
  unfold readL
  rw [wroteB_len, Nat.min_eq_left (show t ≤ max old.length (t + b.length) by omega), Nat.min_eq_left (show b.length ≤ max old.length (t + b.length) - t by omega)]
  unfold wroteB splice
  rw [List.drop_append_of_le_length (by rw [List.length_take, length_sizedL]; omega), List.drop_of_length_le (by rw [List.length_take, length_sizedL]; omega), List.nil_append, List.take_append_of_le_length (Nat.le_refl _), List.take_length]
theorem sizedL_rd (l : List Int) (n i : Nat) (hi : i < n) : rd (sizedL l n) (i : Int) = if i < l.length then rd l (i : Int) else 0 := by
  unfold rd sizedL
  rw [Int.toNat_natCast, List.getD_eq_getElem?_getD, List.getD_eq_getElem?_getD]
  by_cases h : i < l.length
  · rw [if_pos h, List.getElem?_append_left (by rw [List.length_take]; omega), List.getElem?_take, if_pos hi]
  · rw [if_neg h, List.getElem?_append_right (by rw [List.length_take]; omega), List.getElem?_replicate]
    split <;> rfl
theorem wroteB_rd (old : List Int) (t : Nat) (b : List Int) (i : Nat) (hi : i < max old.length (t + b.length)) (ho : ¬ (t ≤ i ∧ i < t + b.length)) : rd (wroteB old t b) (i : Int) = if i < old.length then rd old (i : Int) else 0 := by
  rw [← sizedL_rd old (max old.length (t + b.length)) i hi]
  have hL := length_sizedL old (max old.length (t + b.length))
  unfold wroteB
  generalize sizedL old (max old.length (t + b.length)) = z at hL ⊢
  unfold rd splice
  rw [Int.toNat_natCast, List.getD_eq_getElem?_getD, List.getD_eq_getElem?_getD]
  by_cases h : i < t
  · rw [List.getElem?_append_left (by rw [List.length_take]; omega), List.getElem?_take, if_pos h]
  · rw [List.getElem?_append_right (by rw [List.length_take]; omega), List.length_take, List.getElem?_append_right (by omega), List.getElem?_drop]
    congr 2
    omega
theorem linkP_ev {l : List S45} (hm : Ev (fun k => tree_May.f k l) true) (n : Nat) (hn : n < l.length) (hk : (rd_T45 l (n : Int)).f0 = 1) (t : Int) (ht : TimeP t) : Ev (fun k => linkP k l [(n : Int)] t) true := by
  have h := mayN_ev hm [(n : Int)]
  rw [show ([(n : Int)].all fun n => hasB l n) = true by simp [hasB_nat l n hn, hk], Bool.and_true] at h
  unfold linkP
  refine Ev.bind (f := fun _ m => if m = true then (tree_time.f t).bind fun tm => some tm else some false) h (Ev.congr (fun _ => if_pos rfl) ?_)
  obtain ⟨b, hb, hbt⟩ := tree_time_ t
  rw [hb, hbt.2 ht]; exact Ev.now _
theorem file_ok (l : List S45) (n : Nat) (hn : n < l.length) (hk : (rd_T45 l (n : Int)).f0 = 1) : tree_file.f l (n : Int) = some 0 := by
  unfold tree_file.f
  rw [if_pos (by omega), if_pos (by omega), hk]; rfl
def wroteT (l : List S45) (n : Nat) (d : List Int) (now : Int) : List S45 := l.set n { rd_T45 l (n : Int) with f1 := d, f5 := now }
theorem wroteT_len (l : List S45) (n : Nat) (d : List Int) (now : Int) : (wroteT l n d now).length = l.length := List.length_set
theorem wroteT_rd (l : List S45) (n : Nat) (hn : n < l.length) (d : List Int) (now : Int) : rd_T45 (wroteT l n d now) (n : Int) = { rd_T45 l (n : Int) with f1 := d, f5 := now } := by
  show (l.set n _).getD (n : Int).toNat _ = _
  rw [Int.toNat_natCast, List.getD_eq_getElem?_getD, List.getElem?_set]; simp [hn]
theorem wroteT_twice (l : List S45) (n : Nat) (hn : n < l.length) (d : List Int) (now : Int) : wroteT (wroteT l n d now) n d now = wroteT l n d now := by
  show (wroteT l n d now).set n { rd_T45 (wroteT l n d now) (n : Int) with f1 := d, f5 := now } = wroteT l n d now
  rw [wroteT_rd l n hn]
  unfold wroteT
  rw [List.set_set]
def writeW (at_ : Int) (b : List Int) : Int := if 16384 < at_ then 22 else if 16384 - at_ < (b.length : Int) then 22 else 0
theorem write_ev {l : List S45} (hl : l.length < 1599289640401) (hf : Fits l) (hm : Ev (fun k => tree_May.f k l) true) (n : Nat) (hn : n < l.length) (hk : (rd_T45 l (n : Int)).f0 = 1) (at_ : Int) (h0 : 0 ≤ at_) (b : List Int) (t : Int) (ht : TimeP t) :
    Ev (fun k => tree_Write.f k l (n : Int) at_ b t) (if writeW at_ b = 0 ∧ b.length ≠ 0 then wroteT l n (wroteB (rd_T45 l (n : Int)).f1 at_.toNat b) t else l, writeW at_ b) := by
  unfold tree_Write.f
  refine Ev.bind (f := fun k p => if p = true then (writeE l (n : Int) at_ b).bind fun e => (if e = 0 then (tree_Own.f k l).bind fun u => (writeD u (n : Int) at_ b t).bind fun r => some (r, 0) else tree_bad.f k l e) else tree_bad.f k l 100) (linkP_ev hm n hn hk t ht) (Ev.congr (fun _ => if_pos rfl) ?_)
  have he : writeE l (n : Int) at_ b = some (writeW at_ b) := by
    unfold writeE; rw [file_ok l n hn hk]; show some (if (0 : Int) = 0 then _ else _) = _; rw [if_pos rfl, if_neg (by omega)]; rfl
  rw [he]
  have hd : (rd_T45 l (n : Int)).f1.length ≤ 16384 := by
    rcases (may_nodes hf hm n hn).1 with q | q | q | q
    · rw [hk] at q; exact absurd q.1 (by decide)
    · exact q.2.2.1
    · rw [hk] at q; exact absurd q.1 (by decide)
    · rw [hk] at q; exact absurd q.1 (by decide)
  by_cases hw : writeW at_ b = 0
  · refine Ev.congr (fun k => show (if writeW at_ b = 0 then (tree_Own.f k l).bind fun u => (writeD u (n : Int) at_ b t).bind fun r => some (r, 0) else tree_bad.f k l (writeW at_ b)) = _ from if_pos hw) (Ev.bind (f := fun _ u => (writeD u (n : Int) at_ b t).bind fun r => some (r, 0)) (own_ev l hl hf.n) ?_)
    have hw' := hw
    unfold writeW at hw'
    have h1 : ¬ 16384 < at_ := fun h => by rw [if_pos h] at hw'; cases hw'
    rw [if_neg h1] at hw'
    have h2 : ¬ 16384 - at_ < (b.length : Int) := fun h => by rw [if_pos h] at hw'; cases hw'
    unfold writeD
    rw [if_pos ⟨by omega, by omega, h0, by omega, by omega, by omega⟩, hw, Int.toNat_natCast]
    by_cases hb : b.length = 0
    · rw [if_pos hb, if_neg (fun h => h.2 hb)]; exact Ev.now _
    · rw [if_neg hb, if_pos ⟨rfl, hb⟩]; exact Ev.now _
  · refine Ev.congr (fun k => show (if writeW at_ b = 0 then (tree_Own.f k l).bind fun u => (writeD u (n : Int) at_ b t).bind fun r => some (r, 0) else tree_bad.f k l (writeW at_ b)) = _ from if_neg hw) ?_
    rw [if_neg (fun h => hw h.1)]
    exact bad_ev hl hf.n _ (fun _ => hm)
theorem read_ev {l : List S45} (hf : Fits l) (hm : Ev (fun k => tree_May.f k l) true) (n : Nat) (hn : n < l.length) (hk : (rd_T45 l (n : Int)).f0 = 1) (at_ m : Int) (h0 : 0 ≤ at_) (h1 : 0 ≤ m) :
    Ev (fun k => tree_Read.f k l (n : Int) at_ m) (readL (rd_T45 l (n : Int)).f1 at_.toNat m.toNat, 0) := by
  have h := mayN_ev hm [(n : Int)]
  rw [show ([(n : Int)].all fun n => hasB l n) = true by simp [hasB_nat l n hn, hk], Bool.and_true] at h
  have hd : (rd_T45 l (n : Int)).f1.length ≤ 16384 := by
    rcases (may_nodes hf hm n hn).1 with q | q | q | q
    · rw [hk] at q; exact absurd q.1 (by decide)
    · exact q.2.2.1
    · rw [hk] at q; exact absurd q.1 (by decide)
    · rw [hk] at q; exact absurd q.1 (by decide)
  unfold tree_Read.f
  refine Ev.bind (f := fun _ m' => if m' = true then (tree_file.f l (n : Int)).bind fun e => (if e = 0 then (if at_ < 0 then some ([], 28) else if m < 0 then some ([], 28) else if 0 ≤ (n : Int) ∧ (n : Int) < (l.length : Int) ∧ (rd_T45 l (n : Int)).f1.length ≤ 1000000 then some (readL (rd_T45 l (n : Int)).f1 at_.toNat m.toNat, 0) else none) else some ([], e)) else some ([], 100)) h (Ev.congr (fun _ => if_pos rfl) ?_)
  rw [file_ok l n hn hk]
  exact Ev.congr (fun _ => by rw [Option.bind_some, if_pos rfl, if_neg (by omega), if_neg (by omega), if_pos ⟨by omega, by omega, by omega⟩]) (Ev.now _)
theorem cut_ev {l : List S45} (hl : l.length < 1599289640401) (hf : Fits l) (hm : Ev (fun k => tree_May.f k l) true) (n : Nat) (hn : n < l.length) (hk : (rd_T45 l (n : Int)).f0 = 1) (m : Nat) (h1 : m ≤ 16384) (t : Int) (ht : TimeP t) :
    Ev (fun k => tree_Cut.f k l (n : Int) (m : Int) t) (wroteT l n (sizedL (rd_T45 l (n : Int)).f1 m) t, 0) := by
  unfold tree_Cut.f
  refine Ev.bind (f := fun k p => if p = true then (cutE l (n : Int) (m : Int)).bind fun e => (if e = 0 then (tree_Own.f k l).bind fun u => (cutD u (n : Int) (m : Int) t).bind fun r => some (r, 0) else tree_bad.f k l e) else tree_bad.f k l 100) (linkP_ev hm n hn hk t ht) (Ev.congr (fun _ => if_pos rfl) ?_)
  have he : cutE l (n : Int) (m : Int) = some 0 := by
    unfold cutE; rw [file_ok l n hn hk]; show some (if (0 : Int) = 0 then _ else _) = _; rw [if_pos rfl, if_neg (by omega), if_neg (by omega)]
  rw [he]
  refine Ev.congr (fun k => show (if (0 : Int) = 0 then (tree_Own.f k l).bind fun u => (cutD u (n : Int) (m : Int) t).bind fun r => some (r, 0) else tree_bad.f k l 0) = _ from if_pos rfl) (Ev.bind (f := fun _ u => (cutD u (n : Int) (m : Int) t).bind fun r => some (r, 0)) (own_ev l hl hf.n) ?_)
  unfold cutD
  rw [if_pos ⟨by omega, by omega, by omega, by omega⟩, Int.toNat_natCast, Int.toNat_natCast]
  exact Ev.now _

end Go.Proofs.Ytjghephnjkffcaa.PCk

namespace Go.Proofs.Ytjghephnjkffcaa.PCk
open Go.RowKit Go.Proofs.YtjghephnjkffcaaW.PrintWords Go.Proofs.YtjghephnjkffcaaW.PrintLast Go.Proofs.YtjghephnjkffcaaW.PrintMore
attribute [local go_sem] max2_int min2_int max_two min_two max_three min_three max_four min_four
set_option linter.unusedVariables false
set_option linter.unusedSimpArgs false
-- FUNCTION: gangway/tree.Trim
-- IMPORT: Derived.Test.@N@WOwn
end Go.Proofs.Ytjghephnjkffcaa.PCk

namespace Go.Proofs.Ytjghephnjkffcaa.PCk
open Go.RowKit Go.Proofs.YtjghephnjkffcaaW.PrintWords Go.Proofs.YtjghephnjkffcaaW.PrintLast Go.Proofs.YtjghephnjkffcaaW.PrintMore
attribute [local go_sem] max2_int min2_int max_two min_two max_three min_three max_four min_four
set_option linter.unusedVariables false
set_option linter.unusedSimpArgs false
-- FUNCTION: gangway/tree.Free
-- IMPORT: Derived.Test.@N@WOwn
end Go.Proofs.Ytjghephnjkffcaa.PCk

namespace Go.Proofs.Ytjghephnjkffcaa.PCk
open Go.RowKit Go.Proofs.YtjghephnjkffcaaW.PrintWords Go.Proofs.YtjghephnjkffcaaW.PrintLast Go.Proofs.YtjghephnjkffcaaW.PrintMore
attribute [local go_sem] max2_int min2_int max_two min_two max_three min_three max_four min_four
set_option linter.unusedVariables false
set_option linter.unusedSimpArgs false
-- FUNCTION: gangway/gangwaylaw13.TreeFrees
-- IMPORT: Derived.Test.@N@WOwn
-- IMPORT: Derived.Deep.RegionHeld3
theorem two_cells {W : World} {g : Nat} {a b : Value} {t : TypeId} (h : W.heap[g]? = some (.cells #[a, b] t (0, 0))) : W.cell? ⟨g, 0, none⟩ = some a ∧ W.cell? ⟨g, 1, none⟩ = some b := ⟨(blk_cell h 0).trans rfl, (blk_cell h 1).trans rfl⟩
theorem one_cell {W : World} {g : Nat} {a : Value} {t : TypeId} (h : W.heap[g]? = some (.cells #[a] t (0, 0))) : W.cell? ⟨g, 0, none⟩ = some a := (blk_cell h 0).trans rfl
end Go.Proofs.Ytjghephnjkffcaa.PCk

namespace Go.Proofs.Ytjghephnjkffcaa.PCk
open Go.RowKit Go.Proofs.YtjghephnjkffcaaW.PrintWords Go.Proofs.YtjghephnjkffcaaW.PrintLast Go.Proofs.YtjghephnjkffcaaW.PrintMore
attribute [local go_sem] max2_int min2_int max_two min_two max_three min_three max_four min_four
set_option linter.unusedVariables false
set_option linter.unusedSimpArgs false
/-! ### gangwayref13_Is: function 19 -/
def gangwayref13_Is.f (l0_0 : List (S45)) (a1 : Int) : Option (Bool) := if a1 ≥ 0 then (if a1 < (l0_0.length : Int) then (if 0 ≤ a1 then (some (((rd_T45 l0_0 a1).f0) != 0)) else (none)) else (some false)) else (some false)
set_option maxHeartbeats 8000000 in
set_option maxRecDepth 100000 in
theorem gangwayref13_Is.calls (A0_0 : Option Addr) (c0_0 : Nat) (l0_0 : List (S45)) (a1 : Int) (r : Bool) (w : World) (hr0_0 : Kd.C k45 w A0_0 l0_0.length l0_0) (hc0_0 : l0_0.length ≤ c0_0) (h : gangwayref13_Is.f l0_0 a1 = some r) :
    Calls Try.prog 19 #[.agg #[.slice A0_0 l0_0.length c0_0], .int .i64 a1] w fun e w' => e = .returned (.bool r) ∧ Below w.heap.size w w' := by
  have hu24 := Try.underlying24
  have HR0_0 := Aside0.mk hr0_0
  have HC0_0 := Aside0.mk hc0_0
  clear hr0_0 hc0_0
  have HB := Aside0.mk (Below.refl w.heap.size w)
  have H : (if a1 ≥ 0 then (if a1 < (l0_0.length : Int) then (if 0 ≤ a1 then (some (((rd_T45 l0_0 a1).f0) != 0)) else (none)) else (some false)) else (some false)) = some r := h
  clear h
  by_cases c3 : a1 ≥ 0
  · rw [if_pos c3] at H
    have c3b0 : decide (0 ≤ a1) = true := decide_eq_true c3
    clear c3
    by_cases c4 : a1 < (l0_0.length : Int)
    · rw [if_pos c4] at H
      have c4b0 : decide (a1 < (l0_0.length : Int)) = true := decide_eq_true c4
      clear c4
      by_cases c5 : 0 ≤ a1
      · rw [if_pos c5] at H
        have c5b0 : decide (0 ≤ a1) = true := decide_eq_true c5
        clear c5
        obtain rfl := Option.some.inj H
        go_enter Try.func19, Try.ntmps19
        go_wp2_with (first | ((with_reducible refine gate_dst (N := 2) rfl ?_); (try (refine gate_guard (by rfl) ?_; dsimp only)); refine box_event ?hg (N := 2) ?hd (cs := #[.slice A0_0 l0_0.length c0_0]) (t := 24) ?hr ?_; (case hd => rfl); (case hg => rfl); (case hr => first | (go_simp; done) | (go_simp; rfl)); intro gb301 hg w6 hbox hb; have n0_ := Aside0.mk (below_step (by repeat (first | (with_reducible first | exact HB.out | apply below_alloc | apply pw_below_drewN | apply below_drew1) | exact HB.out)) hb); have n1_ := Aside0.mk (hbox); have n2_ := Aside0.mk ((by rw [hg]; exact (below_size (by repeat (first | (with_reducible first | exact HB.out | apply below_alloc | apply pw_below_drewN | apply below_drew1) | exact HB.out))) : w.heap.size ≤ gb301)); have n3_ := Aside0.mk ((by rw [hg]; exact (below_size (by repeat (first | (with_reducible first | exact HB.out | apply below_alloc | apply pw_below_drewN | apply below_drew1) | exact HB.out))) : w.heap.size ≤ gb301)); clear HB; have HB := n0_; have BK301 := n1_; have GW301 := n2_; have GE301 := n3_; clear n0_ n1_ n2_ n3_; clear hb hbox hg; have hcz7_0 : w6.cell? ⟨gb301, 0, none⟩ = some (.slice A0_0 l0_0.length c0_0) := (blk_cell BK301.out 0).trans rfl; have hfz7_0 := blk_frozen BK301.out 0; have p302 : 0 ≤ (a1 : Int) := of_decide_eq_true (by first | (with_reducible assumption) | assumption); have q302 : a1 < (l0_0.length : Int) := of_decide_eq_true (by first | (with_reducible assumption) | assumption); obtain ⟨ad302, A302_1, c302_1, A302_2, c302_2, e302, hx302_0, hx302_1, hx302_2, hx302_3, hx302_4, hx302_5, hl302_1, hi302_1, hl302_2, hi302_2⟩ := at_T45 HR0_0.out a1 p302 q302; cases e302; replace hx302_0 := (HB.out.cell (World.block_lt_of_cell? w _ hx302_0)).trans hx302_0; replace hx302_1 := (HB.out.cell (World.block_lt_of_cell? w _ hx302_1)).trans hx302_1; replace hx302_2 := (HB.out.cell (World.block_lt_of_cell? w _ hx302_2)).trans hx302_2; replace hx302_3 := (HB.out.cell (World.block_lt_of_cell? w _ hx302_3)).trans hx302_3; replace hx302_4 := (HB.out.cell (World.block_lt_of_cell? w _ hx302_4)).trans hx302_4; replace hx302_5 := (HB.out.cell (World.block_lt_of_cell? w _ hx302_5)).trans hx302_5; have HR302_1 := Aside0.mk hi302_1; have HC302_1 := Aside0.mk hl302_1; clear hi302_1 hl302_1; have HR302_2 := Aside0.mk hi302_2; have HC302_2 := Aside0.mk hl302_2; clear hi302_2 hl302_2; replace p302 := eq_true p302; replace q302 := eq_true q302))
        go_ret
        exact ⟨by first | rfl | (simp [errW_none, errW_some] <;> rfl) | (simp [*, errW_none, errW_some] <;> rfl), by repeat (first | (with_reducible first | exact HB.out | apply below_alloc | apply pw_below_drewN | apply below_drew1 | refine below_set ?_ GE301.out) | exact HB.out)⟩
      · rw [if_neg c5] at H
        exact absurd H (by simp)
    · rw [if_neg c4] at H
      have c4b0 : decide (a1 < (l0_0.length : Int)) = false := decide_eq_false c4
      clear c4
      obtain rfl := Option.some.inj H
      go_enter Try.func19, Try.ntmps19
      go_wp2_with (first | ((with_reducible refine gate_dst (N := 2) rfl ?_); (try (refine gate_guard (by rfl) ?_; dsimp only)); refine box_event ?hg (N := 2) ?hd (cs := #[.slice A0_0 l0_0.length c0_0]) (t := 24) ?hr ?_; (case hd => rfl); (case hg => rfl); (case hr => first | (go_simp; done) | (go_simp; rfl)); intro gb301 hg w8 hbox hb; have n0_ := Aside0.mk (below_step (by repeat (first | (with_reducible first | exact HB.out | apply below_alloc | apply pw_below_drewN | apply below_drew1) | exact HB.out)) hb); have n1_ := Aside0.mk (hbox); have n2_ := Aside0.mk ((by rw [hg]; exact (below_size (by repeat (first | (with_reducible first | exact HB.out | apply below_alloc | apply pw_below_drewN | apply below_drew1) | exact HB.out))) : w.heap.size ≤ gb301)); have n3_ := Aside0.mk ((by rw [hg]; exact (below_size (by repeat (first | (with_reducible first | exact HB.out | apply below_alloc | apply pw_below_drewN | apply below_drew1) | exact HB.out))) : w.heap.size ≤ gb301)); clear HB; have HB := n0_; have BK301 := n1_; have GW301 := n2_; have GE301 := n3_; clear n0_ n1_ n2_ n3_; clear hb hbox hg; have hcz9_0 : w8.cell? ⟨gb301, 0, none⟩ = some (.slice A0_0 l0_0.length c0_0) := (blk_cell BK301.out 0).trans rfl; have hfz9_0 := blk_frozen BK301.out 0))
      go_ret
      exact ⟨by first | rfl | (simp [errW_none, errW_some] <;> rfl) | (simp [*, errW_none, errW_some] <;> rfl), by repeat (first | (with_reducible first | exact HB.out | apply below_alloc | apply pw_below_drewN | apply below_drew1 | refine below_set ?_ GE301.out) | exact HB.out)⟩
  · rw [if_neg c3] at H
    have c3b0 : decide (0 ≤ a1) = false := decide_eq_false c3
    clear c3
    obtain rfl := Option.some.inj H
    go_enter Try.func19, Try.ntmps19
    go_wp2_with (first | ((with_reducible refine gate_dst (N := 2) rfl ?_); (try (refine gate_guard (by rfl) ?_; dsimp only)); refine box_event ?hg (N := 2) ?hd (cs := #[.slice A0_0 l0_0.length c0_0]) (t := 24) ?hr ?_; (case hd => rfl); (case hg => rfl); (case hr => first | (go_simp; done) | (go_simp; rfl)); intro gb301 hg w10 hbox hb; have n0_ := Aside0.mk (below_step (by repeat (first | (with_reducible first | exact HB.out | apply below_alloc | apply pw_below_drewN | apply below_drew1) | exact HB.out)) hb); have n1_ := Aside0.mk (hbox); have n2_ := Aside0.mk ((by rw [hg]; exact (below_size (by repeat (first | (with_reducible first | exact HB.out | apply below_alloc | apply pw_below_drewN | apply below_drew1) | exact HB.out))) : w.heap.size ≤ gb301)); have n3_ := Aside0.mk ((by rw [hg]; exact (below_size (by repeat (first | (with_reducible first | exact HB.out | apply below_alloc | apply pw_below_drewN | apply below_drew1) | exact HB.out))) : w.heap.size ≤ gb301)); clear HB; have HB := n0_; have BK301 := n1_; have GW301 := n2_; have GE301 := n3_; clear n0_ n1_ n2_ n3_; clear hb hbox hg))
    go_ret
    exact ⟨by first | rfl | (simp [errW_none, errW_some] <;> rfl) | (simp [*, errW_none, errW_some] <;> rfl), by repeat (first | (with_reducible first | exact HB.out | apply below_alloc | apply pw_below_drewN | apply below_drew1 | refine below_set ?_ GE301.out) | exact HB.out)⟩

/-! ### gangwaylaw0_Within: function 21 -/
def gangwaylaw0_Within.f (a0 : Int) (a1 : Int) : Option (Int) := if (IntKind.u64.wrap (a1)) = 0 then (none) else (some (wrap64 (Int.tmod (IntKind.u64.wrap (a0)) (IntKind.u64.wrap (a1)))))
set_option maxHeartbeats 8000000 in
set_option maxRecDepth 100000 in
theorem gangwaylaw0_Within.calls (a0 : Int) (a1 : Int) (r : Int) (w : World) (h : gangwaylaw0_Within.f a0 a1 = some r) :
    Calls Try.prog 21 #[.int .i64 a0, .int .i64 a1] w fun e w' => e = .returned (.int .i64 r) ∧ Drawn0 w w' := by
  have H : (if (IntKind.u64.wrap (a1)) = 0 then (none) else (some (wrap64 (Int.tmod (IntKind.u64.wrap (a0)) (IntKind.u64.wrap (a1)))))) = some r := h
  clear h
  by_cases c3 : (IntKind.u64.wrap (a1)) = 0
  · rw [if_pos c3] at H
    exact absurd H (by simp)
  · rw [if_neg c3] at H
    have c3b0 : ((IntKind.u64.wrap (a1)) == 0) = false := beq_eq_false_iff_ne.mpr c3
    have c3b1 : ((IntKind.u64.wrap (a1)) != 0) = true := bne_iff_ne.mpr c3
    obtain rfl := Option.some.inj H
    go_enter Try.func21, Try.ntmps21
    go_wp2
    go_ret
    exact ⟨by first | rfl | (simp; done) | (simp [*]; done), by repeat (first | exact Drawn0.refl _ | apply Drawn0.step)⟩



end Go.Proofs.Ytjghephnjkffcaa.PCk
