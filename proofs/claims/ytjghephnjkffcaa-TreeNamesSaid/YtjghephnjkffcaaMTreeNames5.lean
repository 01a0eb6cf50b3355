/- Parts of one proof, merged by a program of this repo: walks over the given program and plain facts. -/
import Derived.Test.YtjghephnjkffcaaMTreeNames4
import Derived.WalkLawsBesides
namespace Go.Proofs.Ytjghephnjkffcaa.PCk
open Go.RowKit Go.Proofs.YtjghephnjkffcaaW.PrintWords Go.Proofs.YtjghephnjkffcaaW.PrintLast Go.Proofs.YtjghephnjkffcaaW.PrintMore
attribute [local go_sem] zb0 zbY zcl zck zbC zbB zbZ zbX
set_option linter.unusedVariables false
set_option linter.unusedSimpArgs false
theorem up64 {i : Nat} (h : i < 9223372036854775807) : wrap64 ((i : Int) + 1) = ((i + 1 : Nat) : Int) := by unfold wrap64; omega
theorem bytes_eq {a b : ByteArray} : a.toList = b.toList ↔ a = b := by
 constructor
 ·intro h
  rw [ByteArray.toList_eq, ByteArray.toList_eq] at h
  cases a; cases b
  exact congrArg ByteArray.mk (Array.toList_inj.1 h)
 ·rintro rfl; rfl
theorem zbR {a : ByteArray} : a.toList = ([] : List UInt8) ↔ a = ⟨#[]⟩ := by
 have e : (⟨#[]⟩ : ByteArray).toList = ([] : List UInt8) := by rw [ByteArray.toList_eq]
 exact ⟨fun h => bytes_eq.1 (h.trans e.symm), fun h => (bytes_eq.2 h).trans e⟩
theorem rd_get (a : List Int) (i : Nat) (h : i < a.length) : rd a (i : Int) = a[i] := by
 unfold rd; rw [Int.toNat_natCast, List.getD_eq_getElem?_getD, List.getElem?_eq_getElem h]; rfl
theorem zbP (a : List S66) (i : Nat) (h : i < a.length) : zat a (i : Int) = a[i] := by
 unfold zat; rw [Int.toNat_natCast, List.getD_eq_getElem?_getD, List.getElem?_eq_getElem h]; rfl
theorem zbU (a : List S45) (i : Nat) (h : i < a.length) : zaf a (i : Int) = a[i] := by
 unfold zaf; rw [Int.toNat_natCast, List.getD_eq_getElem?_getD, List.getElem?_eq_getElem h]; rfl
def EvB (g : Nat → Option Bool) (P : Prop) : Prop := ∃ r : Bool, Ev g r ∧ (r = true ↔ P)
theorem EvB.iff {g : Nat → Option Bool} {P Q : Prop} (h : EvB g P) (hpq : P ↔ Q) : EvB g Q := by
 obtain ⟨r, h1, h2⟩ := h; exact ⟨r, h1, h2.trans hpq⟩
theorem EvB.congr {g f : Nat → Option Bool} {P : Prop} (h : EvB f P) (e : ∀ k, g k = f k) : EvB g P := by
 obtain ⟨r, h1, h2⟩ := h; exact ⟨r, Ev.congr e h1, h2⟩
theorem EvB.step {g f : Nat → Option Bool} {P : Prop} (h : EvB f P) (e : ∀ k, g (k + 1) = f k) : EvB g P := by
 obtain ⟨r, h1, h2⟩ := h; exact ⟨r, Ev.step e h1, h2⟩
theorem EvB.now (b : Bool) : EvB (fun _ => some b) (b = true) := ⟨b, Ev.now b, Iff.rfl⟩
theorem EvB.no {P : Prop} (h : ¬ P) : EvB (fun _ => some false) P := ⟨false, Ev.now _, by simp [h]⟩
theorem EvB.yes {P : Prop} (h : P) : EvB (fun _ => some true) P := ⟨true, Ev.now _, by simp [h]⟩
theorem EvB.and {g f : Nat → Option Bool} {P Q : Prop} (h : EvB g P) (h' : P → EvB f Q) : EvB (fun k => (g k).bind fun t => if t = true then f k else some false) (P ∧ Q) := by
 obtain ⟨r, h1, h2⟩ := h
 cases r with
 | true =>
  obtain ⟨q, h3, h4⟩ := h' (h2.1 rfl)
  exact ⟨q, Ev.bind (f := fun k t => if t = true then f k else some false) h1 (Ev.congr (fun k => if_pos rfl) h3), h4.trans ⟨fun h => ⟨h2.1 rfl, h⟩, And.right⟩⟩
 | false => exact ⟨false, Ev.bind (f := fun k t => if t = true then f k else some false) h1 (Ev.congr (fun k => if_neg (by simp)) (Ev.now false)), by constructor <;> intro h; cases h; exact absurd (h2.2 h.1) (by simp)⟩
theorem EvB.same {g : Nat → Option Bool} {P : Prop} (h : EvB g P) : EvB (fun k => (g k).bind fun t => some t) P := by
 obtain ⟨r, h1, h2⟩ := h
 exact ⟨r, Ev.bind (f := fun _ t => some t) h1 (Ev.now r), h2⟩
theorem EvB.out {g : Nat → Option Bool} {P : Prop} (h : EvB g P) (hp : P) : Ev g true := by
 obtain ⟨r, h1, h2⟩ := h; rwa [h2.2 hp] at h1
theorem EvB.not {g : Nat → Option Bool} {P : Prop} (h : EvB g P) (hp : ¬ P) : Ev g false := by
 obtain ⟨r, h1, h2⟩ := h
 cases r with
 | true => exact absurd (h2.1 rfl) hp
 | false => exact h1
theorem Ev.one {α : Type} {g : Nat → Option α} {a b : α} (h : Ev g a) (h' : Ev g b) : a = b := by
 obtain ⟨K, hK⟩ := h; obtain ⟨K', hK'⟩ := h'
 have h1 := hK (max K K') (Nat.le_max_left _ _)
 rw [hK' (max K K') (Nat.le_max_right _ _)] at h1
 exact (Option.some.inj h1).symm
theorem drop_eq {α : Type} {a b : List α} {i : Nat} (h : i < a.length) (h' : i < b.length) : a.drop i = b.drop i ↔ a[i] = b[i] ∧ a.drop (i + 1) = b.drop (i + 1) := by
 rw [List.drop_eq_getElem_cons h, List.drop_eq_getElem_cons h', List.cons.injEq]
theorem eqBytes_l0 (a b : List Int) (hl : a.length = b.length) (hm : a.length < 9223372036854775807) : ∀ (d i : Nat), i + d = a.length → EvB (fun k => zaH.l0 k a b (i : Int)) (a.drop i = b.drop i)
 | 0, i, h => EvB.step (EvB.yes (by rw [List.drop_eq_nil_of_le (by omega), List.drop_eq_nil_of_le (by omega)])) (fun k => by rw [zaH.l0, if_neg (by omega)])
 | d + 1, i, h => by
  rw [drop_eq (by omega) (by omega), ← rd_get a i (by omega), ← rd_get b i (by omega)]
  by_cases e : rd a (i : Int) = rd b (i : Int)
  ·refine EvB.step ((eqBytes_l0 a b hl hm d (i + 1) (by omega)).iff ⟨fun h => ⟨e, h⟩, And.right⟩) (fun k => ?_)
   rw [zaH.l0, if_pos (by omega), if_pos (by omega), if_pos (by omega), if_pos e, up64 (by omega)]
  ·refine EvB.step (EvB.no (fun h => e h.1)) (fun k => ?_)
   rw [zaH.l0, if_pos (by omega), if_pos (by omega), if_pos (by omega), if_neg e]
theorem eqBytes (a b : List Int) (hm : a.length < 9223372036854775807) : EvB (fun k => zaH.f k a b) (a = b) := by
 by_cases hl : a.length = b.length
 ·exact ((eqBytes_l0 a b hl hm a.length 0 (by omega)).iff (by simp)).congr (fun k => by unfold zaH.f; rw [if_pos (by omega)]; rfl)
 ·exact (EvB.no (fun e => hl (by rw [e]))).congr (fun k => by unfold zaH.f; rw [if_neg (by omega)])
theorem name_ext (x y : S66) : x = y ↔ x.f0 = y.f0 ∧ x.f1 = y.f1 := by
 cases x; cases y; simp
theorem eqNames_l0 (a b : List S66) (hl : a.length = b.length) (hm : a.length < 9223372036854775807) : ∀ (d i : Nat), i + d = a.length → EvB (fun k => zaF.l0 k a b (i : Int)) (a.drop i = b.drop i)
 | 0, i, h => EvB.step (EvB.yes (by rw [List.drop_eq_nil_of_le (by omega), List.drop_eq_nil_of_le (by omega)])) (fun k => by rw [zaF.l0, if_neg (by omega)])
 | d + 1, i, h => by
  rw [drop_eq (by omega) (by omega), ← zbP a i (by omega), ← zbP b i (by omega)]
  by_cases e : zat a (i : Int) = zat b (i : Int)
  ·refine EvB.step ((eqNames_l0 a b hl hm d (i + 1) (by omega)).iff ⟨fun h => ⟨e, h⟩, And.right⟩) (fun k => ?_)
   rw [zaF.l0, if_pos (by omega), if_pos (by omega), if_pos (by omega), if_neg (by rw [e]; simp), up64 (by omega)]
  ·refine EvB.step (EvB.no (fun h => e h.1)) (fun k => ?_)
   rw [zaF.l0, if_pos (by omega), if_pos (by omega), if_pos (by omega), if_pos]
   rw [name_ext] at e
   rw [Bool.or_eq_true, Bool.not_eq_true', Bool.not_eq_true', beq_eq_false_iff_ne, beq_eq_false_iff_ne, Ne, Ne, bytes_eq]
   exact Decidable.or_iff_not_imp_left.2 fun h1 h2 => e ⟨Decidable.not_not.1 h1, h2⟩
theorem eqNames (a b : List S66) (hm : a.length < 9223372036854775807) : EvB (fun k => zaF.f k a b) (a = b) := by
 by_cases hl : a.length = b.length
 ·exact ((eqNames_l0 a b hl hm a.length 0 (by omega)).iff (by simp)).congr (fun k => by unfold zaF.f; rw [if_pos (by omega)]; rfl)
 ·exact (EvB.no (fun e => hl (by rw [e]))).congr (fun k => by unfold zaF.f; rw [if_neg (by omega)])
def eqNodeF (k : Nat) (x y : S45) : Option Bool := zaC.f k x.f0 x.f1 x.f2 x.f3 x.f4 x.f5 y.f0 y.f1 y.f2 y.f3 y.f4 y.f5
theorem node_ext (x y : S45) : x = y ↔ x.f0 = y.f0 ∧ x.f1 = y.f1 ∧ x.f2 = y.f2 ∧ x.f3 = y.f3 ∧ x.f4 = y.f4 ∧ x.f5 = y.f5 := by
 cases x; cases y; simp
def FitsN (x : S45) : Prop := x.f1.length < 140737488355328 ∧ x.f2.length < 5864062014805
theorem eqNode (x y : S45) (hx : FitsN x) : EvB (fun k => eqNodeF k x y) (x = y) := by
 rw [node_ext]
 unfold eqNodeF zaC.f
 by_cases h0 : x.f0 = y.f0
 ·refine EvB.iff (P := x.f1 = y.f1 ∧ x.f2 = y.f2 ∧ x.f3 = y.f3 ∧ x.f4 = y.f4 ∧ x.f5 = y.f5) ?_ ⟨fun h => ⟨h0, h⟩, And.right⟩
  refine (EvB.and (eqBytes x.f1 y.f1 (by have := hx.1; omega)) (fun _ => EvB.and (eqNames x.f2 y.f2 (by have := hx.2; omega)) (fun _ => ?_))).congr (fun k => by rw [if_pos h0])
  by_cases h3 : x.f3.toList = y.f3.toList
  ·by_cases h4 : x.f4 = y.f4
   ·exact ((EvB.now (x.f5 == y.f5)).iff ⟨fun h => ⟨bytes_eq.1 h3, h4, beq_iff_eq.1 h⟩, fun h => beq_iff_eq.2 h.2.2⟩).congr (fun k => by rw [if_pos h3, if_pos h4])
   ·exact (EvB.no (fun h => h4 h.2.1)).congr (fun k => by rw [if_pos h3, if_neg h4])
  ·exact (EvB.no (fun h => h3 (bytes_eq.2 h.1))).congr (fun k => by rw [if_neg h3])
 ·exact (EvB.no (fun h => h0 h.1)).congr (fun k => by rw [if_neg h0])
theorem eqNodes_l0 (a b : List S45) (hl : a.length = b.length) (hm : a.length < 9223372036854775807) (hf : ∀ x ∈ a, FitsN x) : ∀ (d i : Nat), i + d = a.length → EvB (fun k => zaz.l0 k a b (i : Int)) (a.drop i = b.drop i)
 | 0, i, h => EvB.step (EvB.yes (by rw [List.drop_eq_nil_of_le (by omega), List.drop_eq_nil_of_le (by omega)])) (fun k => by rw [zaz.l0, if_neg (by omega)])
 | d + 1, i, h => by
  rw [drop_eq (by omega) (by omega), ← zbU a i (by omega), ← zbU b i (by omega)]
  have hx : FitsN (zaf a (i : Int)) := by rw [zbU a i (by omega)]; exact hf _ (List.getElem_mem _)
  refine EvB.step (EvB.and (eqNode (zaf a (i : Int)) (zaf b (i : Int)) hx) (fun _ => eqNodes_l0 a b hl hm hf d (i + 1) (by omega))) (fun k => ?_)
  rw [zaz.l0, if_pos (by omega), if_pos (by omega), if_pos (by omega), up64 (by omega)]; rfl
theorem eqNodes (a b : List S45) (hm : a.length < 9223372036854775807) (hf : ∀ x ∈ a, FitsN x) : EvB (fun k => zaz.f k a b) (a = b) := by
 by_cases hl : a.length = b.length
 ·exact ((eqNodes_l0 a b hl hm hf a.length 0 (by omega)).iff (by simp)).congr (fun k => by unfold zaz.f; rw [if_pos (by omega)]; rfl)
 ·exact (EvB.no (fun e => hl (by rw [e]))).congr (fun k => by unfold zaz.f; rw [if_neg (by omega)])
theorem eqTree (a b : List S45) (hm : a.length < 9223372036854775807) (hf : ∀ x ∈ a, FitsN x) : EvB (fun k => zbD.f k a b) (a = b) := (eqNodes a b hm hf).same
theorem take_next {α : Type} (a : List α) (i : Nat) (h : i < a.length) : a.take i ++ [a[i]] = a.take (i + 1) := by
 rw [List.take_succ_eq_append_getElem h]
def zaD.j0 : Nat → ByteArray → Bool → Option (Int)
 | 0, _, _ => none
 | k + 1, x0, x3 => if x3 = true then (some 28) else (if (x0.size : Int) > 64 then (some 37) else (some 0))
def zaD.f (k : Nat) (a0 : ByteArray) : Option (Int) := if a0.toList = ([] : List UInt8) then (zaD.j0 k a0 true) else (if a0.toList = ([46] : List UInt8) then (zaD.j0 k a0 true) else (if a0.toList = ([46, 46] : List UInt8) then (zaD.j0 k a0 true) else ((strings_IndexByte.f a0 0).bind fun t148 => (if t148 ≥ 0 then (zaD.j0 k a0 true) else ((strings_IndexByte.f a0 47).bind fun t149 => (zaD.j0 k a0 (decide (t149 ≥ 0))))))))
theorem zaD.mono_l : ∀ k, (∀ y0 y1, LeO (zaD.j0 k y0 y1) (zaD.j0 (k + 1) y0 y1))
 | 0 => fun _ _ r h => by simp [zaD.j0] at h
 | k + 1 => by
  have ih0 := zaD.mono_l k
  ·intro y0 y1
   unfold zaD.j0
   repeat' first
   | (with_reducible exact ih0 _ _)
   | (with_reducible exact LeO.refl _)
   | (with_reducible exact LeO.none _)
   | (with_reducible refine LeO.ite ?_ ?_)
   | (with_reducible refine LeO.bind ?_ (fun _ => ?_))
   | exact ih0 _ _
   | exact LeO.none _
   | refine LeO.ite ?_ ?_
   | refine LeO.bind ?_ (fun _ => ?_)
theorem zaD.mono : ∀ a0 k, LeO (zaD.f k a0) (zaD.f (k + 1) a0) := by
 intro a0 k
 have ih0 := zaD.mono_l k
 unfold zaD.f
 repeat' first
   | (with_reducible exact ih0 _ _)
   | (with_reducible exact LeO.refl _)
   | (with_reducible exact LeO.none _)
   | (with_reducible refine LeO.ite ?_ ?_)
   | (with_reducible refine LeO.bind ?_ (fun _ => ?_))
   | exact ih0 _ _
   | exact LeO.none _
   | refine LeO.ite ?_ ?_
   | refine LeO.bind ?_ (fun _ => ?_)
set_option maxHeartbeats 8000000 in
set_option maxRecDepth 100000 in
theorem zaD.calls (k : Nat) (a0 : ByteArray) (r : Int) (w : World) (h : zaD.f k a0 = some r) :
  Calls Try.prog 14 #[.string a0] w fun e w' => e = .returned (.int .i64 r) ∧ zaJ w w' := by
 have H : (if a0.toList = ([] : List UInt8) then (zaD.j0 k a0 true) else (if a0.toList = ([46] : List UInt8) then (zaD.j0 k a0 true) else (if a0.toList = ([46, 46] : List UInt8) then (zaD.j0 k a0 true) else ((strings_IndexByte.f a0 0).bind fun t148 => (if t148 ≥ 0 then (zaD.j0 k a0 true) else ((strings_IndexByte.f a0 47).bind fun t149 => (zaD.j0 k a0 (decide (t149 ≥ 0))))))))) = some r := h
 clear h
 have HC2 := zab.mk H
 clear H
 go_enter Try.func14, Try.ntmps14
 go_upto_region 1 with (fail)
 go_cut [3] (fun v3 wc => ∃ (kq : Nat) (x3_1 : Bool), v3 = .bool x3_1 ∧ zab (zaD.j0 kq a0 x3_1 = some r) ∧ zab (kq ≤ k) ∧ zaJ w wc)
 case first =>
  have H := HC2.out
  clear HC2
  by_cases c3 : a0.toList = ([] : List UInt8)
  ·rw [if_pos c3] at H
   have c3b0 : (a0.toList == ([] : List UInt8)) = true := beq_iff_eq.mpr c3
   have c3b1 : (a0.toList != ([] : List UInt8)) = false := bne_eq_false_iff_eq.mpr c3
   clear c3
   (first | rw [c3b0] | (simp only [zb6, zca]; rw [c3b0]) | skip)
   have H' := zab.mk H
   clear H
   go_wp2
   go_meet
   case rel => exact ⟨_, (true), (by first | rfl | (simp; done) | (simp [*]; done)), H', ⟨by first | omega | exact Nat.le_refl _⟩, by repeat (first | exact zaJ.refl _ | apply zaJ.step)⟩
  ·rw [if_neg c3] at H
   have c3b0 : (a0.toList == ([] : List UInt8)) = false := beq_eq_false_iff_ne.mpr c3
   have c3b1 : (a0.toList != ([] : List UInt8)) = true := bne_iff_ne.mpr c3
   (first | rw [c3b0] | (simp only [zb6, zca]; rw [c3b0]) | skip)
   by_cases c4 : a0.toList = ([46] : List UInt8)
   ·rw [if_pos c4] at H
    have c4b0 : (a0.toList == ([46] : List UInt8)) = true := beq_iff_eq.mpr c4
    have c4b1 : (a0.toList != ([46] : List UInt8)) = false := bne_eq_false_iff_eq.mpr c4
    clear c4
    have H' := zab.mk H
    clear H
    go_wp2
    go_meet
    case rel => exact ⟨_, (true), (by first | rfl | (simp; done) | (simp [*]; done)), H', ⟨by first | omega | exact Nat.le_refl _⟩, by repeat (first | exact zaJ.refl _ | apply zaJ.step)⟩
   ·rw [if_neg c4] at H
    have c4b0 : (a0.toList == ([46] : List UInt8)) = false := beq_eq_false_iff_ne.mpr c4
    have c4b1 : (a0.toList != ([46] : List UInt8)) = true := bne_iff_ne.mpr c4
    by_cases c5 : a0.toList = ([46, 46] : List UInt8)
    ·rw [if_pos c5] at H
     have c5b0 : (a0.toList == ([46, 46] : List UInt8)) = true := beq_iff_eq.mpr c5
     have c5b1 : (a0.toList != ([46, 46] : List UInt8)) = false := bne_eq_false_iff_eq.mpr c5
     clear c5
     have H' := zab.mk H
     clear H
     go_wp2
     go_meet
     case rel => exact ⟨_, (true), (by first | rfl | (simp; done) | (simp [*]; done)), H', ⟨by first | omega | exact Nat.le_refl _⟩, by repeat (first | exact zaJ.refl _ | apply zaJ.step)⟩
    ·rw [if_neg c5] at H
     have c5b0 : (a0.toList == ([46, 46] : List UInt8)) = false := beq_eq_false_iff_ne.mpr c5
     have c5b1 : (a0.toList != ([46, 46] : List UInt8)) = true := bne_iff_ne.mpr c5
     replace H := Option.bind_eq_some_iff.mp H
     obtain ⟨t148, A60, H⟩ := H
     replace H : (if t148 ≥ 0 then (zaD.j0 k a0 true) else ((strings_IndexByte.f a0 47).bind fun t149 => (zaD.j0 k a0 (decide (t149 ≥ 0))))) = some r := H
     have A6 := zab.mk A60
     clear A60
     by_cases c7 : t148 ≥ 0
     ·rw [if_pos c7] at H
      have c7b0 : decide (0 ≤ t148) = true := decide_eq_true c7
      clear c7
      have H' := zab.mk H
      clear H
      go_wp2_with (first | (go_at_call 37; (with_reducible refine (strings_IndexByte.calls a0 0 t148 _ A6.out).mono ?_); rintro e w' ⟨rfl, ⟨nd, rfl⟩⟩))
      go_meet
      case rel => exact ⟨_, (true), (by first | rfl | (simp; done) | (simp [*]; done)), H', ⟨by first | omega | exact Nat.le_refl _⟩, by repeat (first | exact zaJ.refl _ | apply zaJ.step)⟩
     ·rw [if_neg c7] at H
      have c7b0 : decide (0 ≤ t148) = false := decide_eq_false c7
      clear c7
      replace H := Option.bind_eq_some_iff.mp H
      obtain ⟨t149, A80, H⟩ := H
      replace H : (zaD.j0 k a0 (decide (t149 ≥ 0))) = some r := H
      have A8 := zab.mk A80
      clear A80
      have H' := zab.mk H
      clear H
      go_wp2_with (first | (go_at_call 37; (with_reducible refine (strings_IndexByte.calls a0 0 t148 _ A6.out).mono ?_); rintro e w' ⟨rfl, ⟨nd, rfl⟩⟩) | (go_at_call 37; (with_reducible refine (strings_IndexByte.calls a0 47 t149 _ A8.out).mono ?_); rintro e w' ⟨rfl, ⟨nd, rfl⟩⟩))
      go_meet
      case rel => exact ⟨_, (decide (t149 ≥ 0)), (by first | rfl | (simp; done) | (simp [*]; done)), H', ⟨by first | omega | exact Nat.le_refl _⟩, by repeat (first | exact zaJ.refl _ | apply zaJ.step)⟩
 case rest =>
  clear HC2
  try clear c1
  try clear p2
  try clear c3
  try clear c3b0
  try clear c3b1
  try clear c4
  try clear c4b0
  try clear c4b1
  try clear c5
  try clear c5b0
  try clear c5b1
  try clear c7
  try clear c7b0
  obtain ⟨kq, x3_1, rfl, HA, HJ1, ⟨mc1, rfl⟩⟩ := hcut
  cases kq with
  | zero => exact absurd HA.out (by simp [zaD.j0])
  | succ kj1 =>
   have H := HA.out
   clear HA
   simp only [zaD.j0] at H
   by_cases c9 : x3_1 = true
   ·subst c9
    have H1 : (some 28) = some r := by rw [if_pos rfl] at H; exact H
    clear H
    have H := H1
    clear H1
    obtain rfl := Option.some.inj H
    go_wp2
    go_ret
    exact ⟨by first | rfl | (simp; done) | (simp [*]; done), by repeat (first | exact zaJ.refl _ | apply zaJ.step)⟩
   ·replace c9 := Bool.eq_false_iff.mpr c9
    subst c9
    have H1 : (if (a0.size : Int) > 64 then (some 37) else (some 0)) = some r := by rw [if_neg (show ¬ (false = true) by decide)] at H; exact H
    clear H
    have H := H1
    clear H1
    by_cases c10 : (a0.size : Int) > 64
    ·rw [if_pos c10] at H
     have c10b0 : decide (64 < (a0.size : Int)) = true := decide_eq_true c10
     have c10b1 : decide (64 < a0.size) = true := decide_eq_true (by omega)
     clear c10
     obtain rfl := Option.some.inj H
     go_wp2
     go_ret
     exact ⟨by first | rfl | (simp; done) | (simp [*]; done), by repeat (first | exact zaJ.refl _ | apply zaJ.step)⟩
    ·rw [if_neg c10] at H
     have c10b0 : decide (64 < (a0.size : Int)) = false := decide_eq_false c10
     have c10b1 : decide (64 < a0.size) = false := decide_eq_false (by omega)
     clear c10
     obtain rfl := Option.some.inj H
     go_wp2
     go_ret
     exact ⟨by first | rfl | (simp; done) | (simp [*]; done), by repeat (first | exact zaJ.refl _ | apply zaJ.step)⟩
def nameE (s : ByteArray) : Int := (zaD.f 1 s).getD 0
theorem nameE_f (s : ByteArray) : zaD.f 1 s = some (nameE s) := by
 unfold nameE zaD.f
 simp only [strings_IndexByte.f, zaD.j0, Option.bind_some]
 repeat' split
 all_goals rfl
def okName (l : List S45) (ns : List S66) (i : Nat) : Bool :=
 (nameE (zat ns i).f0 == 0) && (i == 0 || Op.bytesLess (zat ns ((i : Int) - 1)).f0.toList (zat ns i).f0.toList) &&
 (decide (1 ≤ (zat ns i).f1) && (decide ((zat ns i).f1 < (l.length : Int)) && ((zaf l (zat ns i).f1).f0 != 0)))
def okNames (l : List S45) (ns : List S66) (n : Nat) : Bool := (List.range n).all (okName l ns)
theorem okNames_succ (l : List S45) (ns : List S66) (n : Nat) : okNames l ns (n + 1) = (okNames l ns n && okName l ns n) := by
 unfold okNames; rw [List.range_succ, List.all_append]; simp
theorem zbA {l : List S45} {ns : List S66} {i n : Nat} (hi : i < n) (h : okName l ns i = false) : okNames l ns n = false := by
 unfold okNames
 rw [List.all_eq_false]
 exact ⟨i, List.mem_range.2 hi, by simp [h]⟩
def zcg.f (l0_0 : List S45) (l1 : List S66) : Option Bool := some (okNames l0_0 l1 l1.length && decide ((l1.length : Int) ≤ 64))
set_option maxHeartbeats 4000000 in
set_option maxRecDepth 100000 in
theorem zcg.calls (A0_0 : Option Addr) (c0_0 : Nat) (l0_0 : List S45) (A1 : Option Addr) (c1 : Nat) (l1 : List S66) (r : Bool) (w : World) (hr0_0 : Kd.C k45 w A0_0 l0_0.length l0_0) (hc0_0 : l0_0.length ≤ c0_0) (hr1 : Kd.C k66 w A1 l1.length l1) (hc1 : l1.length ≤ c1) (h : zcg.f l0_0 l1 = some r) :
  Calls Try.prog 72 #[.agg #[.slice A0_0 l0_0.length c0_0], .slice A1 l1.length c1] w fun e w' => e = .returned (.bool r) ∧ Below w.heap.size w w' := by
 have HH := zab.mk (Option.some.inj h)
 have HR := zab.mk hr0_0
 have HR1 := zab.mk hr1
 have HM := zab.mk hr1.2.1
 have hut := Try.underlying24
 have hun := Try.underlying66
 clear hr0_0 hc0_0 hr1 hc1 h
 go_enter Try.func72, Try.ntmps72
 go_wp2
 go_loopw [9] (fun v9 w' => ∃ i : Nat, i ≤ l1.length ∧ v9 = .int .i64 i ∧ zab (okNames l0_0 l1 i = true) ∧ zab (Below (w.alloc (.cells #[.slice A0_0 l0_0.length c0_0] 24)).heap.size (w.alloc (.cells #[.slice A0_0 l0_0.length c0_0] 24)) w')) (fun v9 _ => l1.length - (intOf v9).toNat)
 case atStart => exact ⟨0, Nat.zero_le _, rfl, ⟨rfl⟩, ⟨Below.refl _ _⟩⟩
 case round =>
  obtain ⟨i, hi, rfl, HE, HB⟩ := hrel
  have hmax := HM.out
  have HB0 := zab.mk (zak (zac (Below.refl w.heap.size w) (.cells #[.slice A0_0 l0_0.length c0_0] 24)) HB.out)
  have hct : wr.cell? ⟨w.heap.size, 0, none⟩ = some (.slice A0_0 l0_0.length c0_0) := (zah ((HB.out.block w.heap.size (by simp)).trans (zbp w _)) 0).trans rfl
  by_cases hlt : i < l1.length
  ·obtain ⟨ad, rfl, hx0, hx1⟩ := zb7 HR1.out (i : Int) (by omega) (by omega)
   replace hx0 := (HB0.out.cell (World.block_lt_of_cell? w _ hx0)).trans hx0
   replace hx1 := (HB0.out.cell (World.block_lt_of_cell? w _ hx1)).trans hx1
   rw [Int.toNat_natCast] at hx0 hx1
   have hct2 : (wr.alloc (.cells #[.string (zat l1 i).f0, .int .i64 (zat l1 i).f1] 66)).cell? ⟨w.heap.size, 0, none⟩ = some (.slice A0_0 l0_0.length c0_0) := (World.cell?_alloc_lt _ _ _ (World.block_lt_of_cell? _ _ hct)).trans hct
   have HN := zab.mk (nameE_f (zat l1 i).f0)
   obtain ⟨en, hen⟩ : ∃ e, e = nameE (zat l1 i).f0 := ⟨_, rfl⟩
   have HO : zab (okName l0_0 l1 i = ((en == 0) && (i == 0 || Op.bytesLess (zat l1 ((i : Int) - 1)).f0.toList (zat l1 i).f0.toList) && (decide (1 ≤ (zat l1 i).f1) && (decide ((zat l1 i).f1 < (l0_0.length : Int)) && ((zaf l0_0 (zat l1 i).f1).f0 != 0))))) := ⟨by rw [hen]; rfl⟩
   rw [← hen] at HN
   clear hen
   by_cases c1 : en = 0
   ·have hn1 : (en != 0) = false := by simpa using c1
    have HC1 := zab.mk c1
    clear c1
    by_cases c2 : i = 0
    ·have hn2 : decide ((0 : Int) < (i : Int)) = false := by simp [c2]
     have hn2b : decide (0 < i) = false := by simp [c2]
     have HC2 : zab ((i == 0 || Op.bytesLess (zat l1 ((i : Int) - 1)).f0.toList (zat l1 i).f0.toList) = true) := ⟨by simp [c2]⟩
     clear c2
     by_cases c3 : 1 ≤ (zat l1 i).f1
     ·have hn3 : decide ((zat l1 i).f1 < 1) = false := by simpa using c3
      by_cases c4 : (zat l1 i).f1 < (l0_0.length : Int)
      ·have hn4 : decide ((l0_0.length : Int) ≤ (zat l1 i).f1) = false := by simpa using c4
       obtain ⟨at_, B1, d1, B2, d2, rfl, hy0, hy1, hy2, hy3, hy4, hy5, _, _, _, _⟩ := zbh HR.out (zat l1 i).f1 (by omega) c4
       replace hy0 := (HB0.out.cell (World.block_lt_of_cell? w _ hy0)).trans hy0
       have hy02 := (World.cell?_alloc_lt wr (.cells #[.string (zat l1 i).f0, .int .i64 (zat l1 i).f1] 66) _ (World.block_lt_of_cell? _ _ hy0)).trans hy0
       clear hy1 hy2 hy3 hy4 hy5
       have p4 := eq_true (show 0 ≤ (zat l1 i).f1 by omega)
       have q4 := eq_true c4
       by_cases c5 : (zaf l0_0 (zat l1 i).f1).f0 = 0
       ·have hn5 : ((zaf l0_0 (zat l1 i).f1).f0 == 0) = true := by simpa using c5
        have HF := zab.mk (zbA hlt (show okName l0_0 l1 i = false by rw [HO.out]; simp [c5]))
        clear c3 c4 c5
        go_wp2_with fail
        go_quiet ((go_at_call 14; (with_reducible refine (zaD.calls 1 (zat l1 i).f0 en _ HN.out).mono ?_); rintro e w' ⟨rfl, ⟨nd, rfl⟩⟩; (try first | exact ⟨rfl, _, World.drewN_drewN _ _ _⟩ | exact ⟨rfl, _, Eq.trans (World.drewN_drewN _ _ _) (congrArg (World.drewN _) (Nat.add_assoc _ _ _))⟩)))
        go_wp2
        go_ret
        exact ⟨by rw [← HH.out, HF.out]; rfl, by repeat (first | exact HB0.out | apply zac | apply zaa | apply zad)⟩
       ·have hn5 : ((zaf l0_0 (zat l1 i).f1).f0 == 0) = false := by simpa using c5
        have HF := zab.mk (show okNames l0_0 l1 (i + 1) = true by rw [okNames_succ, HE.out, HO.out]; simp [HC1.out, HC2.out, c3, c4, c5])
        clear c3 c4 c5
        go_wp2_with fail
        go_quiet ((go_at_call 14; (with_reducible refine (zaD.calls 1 (zat l1 i).f0 en _ HN.out).mono ?_); rintro e w' ⟨rfl, ⟨nd, rfl⟩⟩; (try first | exact ⟨rfl, _, World.drewN_drewN _ _ _⟩ | exact ⟨rfl, _, Eq.trans (World.drewN_drewN _ _ _) (congrArg (World.drewN _) (Nat.add_assoc _ _ _))⟩)))
        go_wp2
        go_roundw
        case rel => exact ⟨i + 1, by omega, by go_num, HF, ⟨by repeat (first | exact HB.out | apply zac | apply zaa | apply zad)⟩⟩
        case measure => simp [intOf]; omega
      ·have hn4 : decide ((l0_0.length : Int) ≤ (zat l1 i).f1) = true := by simpa using c4
       have HF := zab.mk (zbA hlt (show okName l0_0 l1 i = false by rw [HO.out]; simp [c4]))
       clear c3 c4
       go_wp2_with fail
       go_quiet ((go_at_call 14; (with_reducible refine (zaD.calls 1 (zat l1 i).f0 en _ HN.out).mono ?_); rintro e w' ⟨rfl, ⟨nd, rfl⟩⟩; (try first | exact ⟨rfl, _, World.drewN_drewN _ _ _⟩ | exact ⟨rfl, _, Eq.trans (World.drewN_drewN _ _ _) (congrArg (World.drewN _) (Nat.add_assoc _ _ _))⟩)))
       go_wp2
       go_ret
       exact ⟨by rw [← HH.out, HF.out]; rfl, by repeat (first | exact HB0.out | apply zac | apply zaa | apply zad)⟩
     ·have hn3 : decide ((zat l1 i).f1 < 1) = true := by simpa using c3
      have HF := zab.mk (zbA hlt (show okName l0_0 l1 i = false by rw [HO.out]; simp [c3]))
      clear c3
      go_wp2_with fail
      go_quiet ((go_at_call 14; (with_reducible refine (zaD.calls 1 (zat l1 i).f0 en _ HN.out).mono ?_); rintro e w' ⟨rfl, ⟨nd, rfl⟩⟩; (try first | exact ⟨rfl, _, World.drewN_drewN _ _ _⟩ | exact ⟨rfl, _, Eq.trans (World.drewN_drewN _ _ _) (congrArg (World.drewN _) (Nat.add_assoc _ _ _))⟩)))
      go_wp2
      go_ret
      exact ⟨by rw [← HH.out, HF.out]; rfl, by repeat (first | exact HB0.out | apply zac | apply zaa | apply zad)⟩
    ·have hn2 : decide ((0 : Int) < (i : Int)) = true := by simp; omega
     have hn2b : decide (0 < i) = true := by simp; omega
     obtain ⟨ad2, e2, hz0, hz1⟩ := zb7 HR1.out ((i : Int) - 1) (by omega) (by omega)
     cases e2
     replace hz0 := (HB0.out.cell (World.block_lt_of_cell? w _ hz0)).trans hz0
     rw [show ((i : Int) - 1).toNat = i - 1 by omega] at hz0
     have hz02 := (World.cell?_alloc_lt wr (.cells #[.string (zat l1 i).f0, .int .i64 (zat l1 i).f1] 66) _ (World.block_lt_of_cell? _ _ hz0)).trans hz0
     have hp2 : 1 ≤ i := by omega
     clear hz1
     cases c6 : Op.bytesLess (zat l1 ((i : Int) - 1)).f0.toList (zat l1 i).f0.toList
     ·have HF := zab.mk (zbA hlt (show okName l0_0 l1 i = false by rw [HO.out]; simp [c2, c6]))
      clear c2
      go_wp2_with fail
      go_quiet ((go_at_call 14; (with_reducible refine (zaD.calls 1 (zat l1 i).f0 en _ HN.out).mono ?_); rintro e w' ⟨rfl, ⟨nd, rfl⟩⟩; (try first | exact ⟨rfl, _, World.drewN_drewN _ _ _⟩ | exact ⟨rfl, _, Eq.trans (World.drewN_drewN _ _ _) (congrArg (World.drewN _) (Nat.add_assoc _ _ _))⟩)))
      go_wp2
      go_ret
      exact ⟨by rw [← HH.out, HF.out]; rfl, by repeat (first | exact HB0.out | apply zac | apply zaa | apply zad)⟩
     ·have HC2 : zab ((i == 0 || Op.bytesLess (zat l1 ((i : Int) - 1)).f0.toList (zat l1 i).f0.toList) = true) := ⟨by simp [c6]⟩
      clear c2
      by_cases c3 : 1 ≤ (zat l1 i).f1
      ·have hn3 : decide ((zat l1 i).f1 < 1) = false := by simpa using c3
       by_cases c4 : (zat l1 i).f1 < (l0_0.length : Int)
       ·have hn4 : decide ((l0_0.length : Int) ≤ (zat l1 i).f1) = false := by simpa using c4
        obtain ⟨at_, B1, d1, B2, d2, rfl, hy0, hy1, hy2, hy3, hy4, hy5, _, _, _, _⟩ := zbh HR.out (zat l1 i).f1 (by omega) c4
        replace hy0 := (HB0.out.cell (World.block_lt_of_cell? w _ hy0)).trans hy0
        have hy02 := (World.cell?_alloc_lt wr (.cells #[.string (zat l1 i).f0, .int .i64 (zat l1 i).f1] 66) _ (World.block_lt_of_cell? _ _ hy0)).trans hy0
        clear hy1 hy2 hy3 hy4 hy5
        have p4 := eq_true (show 0 ≤ (zat l1 i).f1 by omega)
        have q4 := eq_true c4
        by_cases c5 : (zaf l0_0 (zat l1 i).f1).f0 = 0
        ·have hn5 : ((zaf l0_0 (zat l1 i).f1).f0 == 0) = true := by simpa using c5
         have HF := zab.mk (zbA hlt (show okName l0_0 l1 i = false by rw [HO.out]; simp [c5]))
         clear c3 c4 c5
         go_wp2_with fail
         go_quiet ((go_at_call 14; (with_reducible refine (zaD.calls 1 (zat l1 i).f0 en _ HN.out).mono ?_); rintro e w' ⟨rfl, ⟨nd, rfl⟩⟩; (try first | exact ⟨rfl, _, World.drewN_drewN _ _ _⟩ | exact ⟨rfl, _, Eq.trans (World.drewN_drewN _ _ _) (congrArg (World.drewN _) (Nat.add_assoc _ _ _))⟩)))
         go_wp2
         go_ret
         exact ⟨by rw [← HH.out, HF.out]; rfl, by repeat (first | exact HB0.out | apply zac | apply zaa | apply zad)⟩
        ·have hn5 : ((zaf l0_0 (zat l1 i).f1).f0 == 0) = false := by simpa using c5
         have HF := zab.mk (show okNames l0_0 l1 (i + 1) = true by rw [okNames_succ, HE.out, HO.out]; simp [HC1.out, HC2.out, c3, c4, c5])
         clear c3 c4 c5
         go_wp2_with fail
         go_quiet ((go_at_call 14; (with_reducible refine (zaD.calls 1 (zat l1 i).f0 en _ HN.out).mono ?_); rintro e w' ⟨rfl, ⟨nd, rfl⟩⟩; (try first | exact ⟨rfl, _, World.drewN_drewN _ _ _⟩ | exact ⟨rfl, _, Eq.trans (World.drewN_drewN _ _ _) (congrArg (World.drewN _) (Nat.add_assoc _ _ _))⟩)))
         go_wp2
         go_roundw
         case rel => exact ⟨i + 1, by omega, by go_num, HF, ⟨by repeat (first | exact HB.out | apply zac | apply zaa | apply zad)⟩⟩
         case measure => simp [intOf]; omega
       ·have hn4 : decide ((l0_0.length : Int) ≤ (zat l1 i).f1) = true := by simpa using c4
        have HF := zab.mk (zbA hlt (show okName l0_0 l1 i = false by rw [HO.out]; simp [c4]))
        clear c3 c4
        go_wp2_with fail
        go_quiet ((go_at_call 14; (with_reducible refine (zaD.calls 1 (zat l1 i).f0 en _ HN.out).mono ?_); rintro e w' ⟨rfl, ⟨nd, rfl⟩⟩; (try first | exact ⟨rfl, _, World.drewN_drewN _ _ _⟩ | exact ⟨rfl, _, Eq.trans (World.drewN_drewN _ _ _) (congrArg (World.drewN _) (Nat.add_assoc _ _ _))⟩)))
        go_wp2
        go_ret
        exact ⟨by rw [← HH.out, HF.out]; rfl, by repeat (first | exact HB0.out | apply zac | apply zaa | apply zad)⟩
      ·have hn3 : decide ((zat l1 i).f1 < 1) = true := by simpa using c3
       have HF := zab.mk (zbA hlt (show okName l0_0 l1 i = false by rw [HO.out]; simp [c3]))
       clear c3
       go_wp2_with fail
       go_quiet ((go_at_call 14; (with_reducible refine (zaD.calls 1 (zat l1 i).f0 en _ HN.out).mono ?_); rintro e w' ⟨rfl, ⟨nd, rfl⟩⟩; (try first | exact ⟨rfl, _, World.drewN_drewN _ _ _⟩ | exact ⟨rfl, _, Eq.trans (World.drewN_drewN _ _ _) (congrArg (World.drewN _) (Nat.add_assoc _ _ _))⟩)))
       go_wp2
       go_ret
       exact ⟨by rw [← HH.out, HF.out]; rfl, by repeat (first | exact HB0.out | apply zac | apply zaa | apply zad)⟩
   ·have hn1 : (en != 0) = true := by simpa using c1
    have HF := zab.mk (zbA hlt (show okName l0_0 l1 i = false by rw [HO.out]; simp [c1]))
    clear c1
    go_wp2_with fail
    go_quiet ((go_at_call 14; (with_reducible refine (zaD.calls 1 (zat l1 i).f0 en _ HN.out).mono ?_); rintro e w' ⟨rfl, ⟨nd, rfl⟩⟩; (try first | exact ⟨rfl, _, World.drewN_drewN _ _ _⟩ | exact ⟨rfl, _, Eq.trans (World.drewN_drewN _ _ _) (congrArg (World.drewN _) (Nat.add_assoc _ _ _))⟩)))
    go_wp2
    go_ret
    exact ⟨by rw [← HH.out, HF.out]; rfl, by repeat (first | exact HB0.out | apply zac | apply zaa | apply zad)⟩
  ·have hle := okNames_succ l0_0 l1 0
   have HH1 := HH.out
   obtain rfl : i = l1.length := by omega
   rw [HE.out, Bool.true_and] at HH1
   have HH2 := zab.mk HH1
   clear HH1 hle
   go_wp2
   go_ret
   exact ⟨by rw [← HH2.out]; rfl, by repeat (first | exact HB0.out | apply zac | apply zaa | apply zad)⟩
def zaI.l0 : Nat → ByteArray → Int → Option (Bool)
 | 0, _, _ => none
 | k + 1, x0, x3 => if x3 < (x0.size : Int) then (if 0 ≤ x3 then (if (bt x0 x3) = 0 then (some true) else (zaI.l0 k x0 (wrap64 (x3 + 1)))) else (none)) else (some false)
def zaI.f (k : Nat) (a0 : ByteArray) : Option (Bool) := zaI.l0 k a0 0
set_option maxHeartbeats 8000000 in
set_option maxRecDepth 100000 in
theorem zaI.calls (k : Nat) (a0 : ByteArray) (r : Bool) (w : World) (h : zaI.f k a0 = some r) :
  Calls Try.prog 38 #[.string a0] w fun e w' => e = .returned (.bool r) ∧ zaJ w w' := by
 have H : (zaI.l0 k a0 0) = some r := h
 clear h
 have H' := zab.mk H
 clear H
 go_enter Try.func38, Try.ntmps38
 go_wp2
 go_loopg [3] k (fun kq v3 w' => ∃ (x3_1 : Int), v3 = .int .i64 x3_1 ∧ zab (zaI.l0 kq a0 x3_1 = some r) ∧ zab (kq ≤ k) ∧ zaJ w w')
 case atStart => exact ⟨(0), (by first | rfl | (simp; done) | (simp [*]; done)), H', ⟨Nat.le_refl _⟩, by repeat (first | exact zaJ.refl _ | apply zaJ.step)⟩
 case round =>
  clear H'
  obtain ⟨x3_1, rfl, HA, HK1, ⟨m1, rfl⟩⟩ := hrel
  cases gk with
  | zero => exact absurd HA.out (by simp [zaI.l0])
  | succ k1 =>
   have H := HA.out
   clear HA
   simp only [zaI.l0] at H
   by_cases c2 : x3_1 < (a0.size : Int)
   ·rw [if_pos c2] at H
    have c2b0 : decide (x3_1 < (a0.size : Int)) = true := decide_eq_true c2
    clear c2
    by_cases c3 : 0 ≤ x3_1
    ·rw [if_pos c3] at H
     have c3b0 : decide (0 ≤ x3_1) = true := decide_eq_true c3
     clear c3
     by_cases c5 : (bt a0 x3_1) = 0
     ·rw [if_pos c5] at H
      have c5b0 : ((bt a0 x3_1) == 0) = true := beq_iff_eq.mpr c5
      have c5b1 : ((bt a0 x3_1) != 0) = false := bne_eq_false_iff_eq.mpr c5
      clear c5
      obtain rfl := Option.some.inj H
      have p4 : 0 ≤ (x3_1 : Int) := of_decide_eq_true (by first | (with_reducible assumption) | assumption)
      have q4 : x3_1 < (a0.size : Int) := of_decide_eq_true (by first | (with_reducible assumption) | assumption)
      have hx4 := bt_at a0 x3_1
      replace p4 := eq_true p4
      replace q4 := eq_true q4
      go_wp2
      go_ret
      exact ⟨by first | rfl | (simp; done) | (simp [*]; done), by repeat (first | exact zaJ.refl _ | apply zaJ.step)⟩
     ·rw [if_neg c5] at H
      have c5b0 : ((bt a0 x3_1) == 0) = false := beq_eq_false_iff_ne.mpr c5
      have c5b1 : ((bt a0 x3_1) != 0) = true := bne_iff_ne.mpr c5
      have H' := zab.mk H
      clear H
      have p4 : 0 ≤ (x3_1 : Int) := of_decide_eq_true (by first | (with_reducible assumption) | assumption)
      have q4 : x3_1 < (a0.size : Int) := of_decide_eq_true (by first | (with_reducible assumption) | assumption)
      have hx4 := bt_at a0 x3_1
      replace p4 := eq_true p4
      replace q4 := eq_true q4
      go_wp2
      go_roundg k1
      case measure => have := HK1.out; omega
      case rel => exact ⟨(wrap64 (x3_1 + 1)), (by first | rfl | (simp; done) | (simp [*]; done)), H', ⟨by have := HK1.out; omega⟩, by repeat (first | exact zaJ.refl _ | apply zaJ.step)⟩
    ·rw [if_neg c3] at H
     exact absurd H (by simp)
   ·rw [if_neg c2] at H
    have c2b0 : decide (x3_1 < (a0.size : Int)) = false := decide_eq_false c2
    clear c2
    obtain rfl := Option.some.inj H
    go_wp2
    go_ret
    exact ⟨by first | rfl | (simp; done) | (simp [*]; done), by repeat (first | exact zaJ.refl _ | apply zaJ.step)⟩
mutual
def zav.j0 : Nat → ByteArray → Bool → Option (Int)
 | 0, _, _ => none
 | k + 1, x0, x17 => if x17 = true then (some 28) else (zav.l0 k x0 0)
def zav.l0 : Nat → ByteArray → Int → Option (Int)
 | 0, _, _ => none
 | k + 1, x0, x3 => if x3 < (x0.size : Int) then (if 0 ≤ x3 then (if (bt x0 x3) = 47 then (some 28) else (zav.l0 k x0 (wrap64 (x3 + 1)))) else (none)) else (if (x0.size : Int) > 64 then (some 37) else (some 0))
end
def zav.f (k : Nat) (a0 : ByteArray) : Option (Int) := if a0.toList = ([] : List UInt8) then (zav.j0 k a0 true) else (if a0.toList = ([46] : List UInt8) then (zav.j0 k a0 true) else (if a0.toList = ([46, 46] : List UInt8) then (zav.j0 k a0 true) else ((zaI.f k a0).bind fun t172 => (zav.j0 k a0 t172))))
set_option maxHeartbeats 8000000 in
set_option maxRecDepth 100000 in
theorem zav.calls (k : Nat) (a0 : ByteArray) (r : Int) (w : World) (h : zav.f k a0 = some r) :
  Calls Try.prog 15 #[.string a0] w fun e w' => e = .returned (.int .i64 r) ∧ zaJ w w' := by
 have H : (if a0.toList = ([] : List UInt8) then (zav.j0 k a0 true) else (if a0.toList = ([46] : List UInt8) then (zav.j0 k a0 true) else (if a0.toList = ([46, 46] : List UInt8) then (zav.j0 k a0 true) else ((zaI.f k a0).bind fun t172 => (zav.j0 k a0 t172))))) = some r := h
 clear h
 have HC2 := zab.mk H
 clear H
 go_enter Try.func15, Try.ntmps15
 go_upto_region 1 with (fail)
 go_cut [17] (fun v17 wc => ∃ (kq : Nat) (x17_1 : Bool), v17 = .bool x17_1 ∧ zab (zav.j0 kq a0 x17_1 = some r) ∧ zab (kq ≤ k) ∧ zaJ w wc)
 case first =>
  have H := HC2.out
  clear HC2
  by_cases c3 : a0.toList = ([] : List UInt8)
  ·rw [if_pos c3] at H
   have c3b0 : (a0.toList == ([] : List UInt8)) = true := beq_iff_eq.mpr c3
   have c3b1 : (a0.toList != ([] : List UInt8)) = false := bne_eq_false_iff_eq.mpr c3
   clear c3
   (first | rw [c3b0] | (simp only [zb6, zca]; rw [c3b0]) | skip)
   have H' := zab.mk H
   clear H
   go_wp2
   go_meet
   case rel => exact ⟨_, (true), (by first | rfl | (simp; done) | (simp [*]; done)), H', ⟨by first | omega | exact Nat.le_refl _⟩, by repeat (first | exact zaJ.refl _ | apply zaJ.step)⟩
  ·rw [if_neg c3] at H
   have c3b0 : (a0.toList == ([] : List UInt8)) = false := beq_eq_false_iff_ne.mpr c3
   have c3b1 : (a0.toList != ([] : List UInt8)) = true := bne_iff_ne.mpr c3
   (first | rw [c3b0] | (simp only [zb6, zca]; rw [c3b0]) | skip)
   by_cases c4 : a0.toList = ([46] : List UInt8)
   ·rw [if_pos c4] at H
    have c4b0 : (a0.toList == ([46] : List UInt8)) = true := beq_iff_eq.mpr c4
    have c4b1 : (a0.toList != ([46] : List UInt8)) = false := bne_eq_false_iff_eq.mpr c4
    clear c4
    have H' := zab.mk H
    clear H
    go_wp2
    go_meet
    case rel => exact ⟨_, (true), (by first | rfl | (simp; done) | (simp [*]; done)), H', ⟨by first | omega | exact Nat.le_refl _⟩, by repeat (first | exact zaJ.refl _ | apply zaJ.step)⟩
   ·rw [if_neg c4] at H
    have c4b0 : (a0.toList == ([46] : List UInt8)) = false := beq_eq_false_iff_ne.mpr c4
    have c4b1 : (a0.toList != ([46] : List UInt8)) = true := bne_iff_ne.mpr c4
    by_cases c5 : a0.toList = ([46, 46] : List UInt8)
    ·rw [if_pos c5] at H
     have c5b0 : (a0.toList == ([46, 46] : List UInt8)) = true := beq_iff_eq.mpr c5
     have c5b1 : (a0.toList != ([46, 46] : List UInt8)) = false := bne_eq_false_iff_eq.mpr c5
     clear c5
     have H' := zab.mk H
     clear H
     go_wp2
     go_meet
     case rel => exact ⟨_, (true), (by first | rfl | (simp; done) | (simp [*]; done)), H', ⟨by first | omega | exact Nat.le_refl _⟩, by repeat (first | exact zaJ.refl _ | apply zaJ.step)⟩
    ·rw [if_neg c5] at H
     have c5b0 : (a0.toList == ([46, 46] : List UInt8)) = false := beq_eq_false_iff_ne.mpr c5
     have c5b1 : (a0.toList != ([46, 46] : List UInt8)) = true := bne_iff_ne.mpr c5
     replace H := Option.bind_eq_some_iff.mp H
     obtain ⟨t172, A60, H⟩ := H
     replace H : (zav.j0 k a0 t172) = some r := H
     have A6 := zab.mk A60
     clear A60
     have H' := zab.mk H
     clear H
     go_wp2_with (first | (go_at_call 38; (with_reducible refine (zaI.calls k a0 t172 _ A6.out).mono ?_); rintro e w' ⟨rfl, ⟨nd, rfl⟩⟩))
     go_meet
     case rel => exact ⟨_, (t172), (by first | rfl | (simp; done) | (simp [*]; done)), H', ⟨by first | omega | exact Nat.le_refl _⟩, by repeat (first | exact zaJ.refl _ | apply zaJ.step)⟩
 case rest =>
  clear HC2
  try clear c1
  try clear p2
  try clear c3
  try clear c3b0
  try clear c3b1
  try clear c4
  try clear c4b0
  try clear c4b1
  try clear c5
  try clear c5b0
  try clear c5b1
  obtain ⟨kq, x17_1, rfl, HA, HJ1, ⟨mc1, rfl⟩⟩ := hcut
  cases kq with
  | zero => exact absurd HA.out (by simp [zav.j0])
  | succ kj1 =>
   have H := HA.out
   clear HA
   simp only [zav.j0] at H
   by_cases c7 : x17_1 = true
   ·subst c7
    have H1 : (some 28) = some r := by rw [if_pos rfl] at H; exact H
    clear H
    have H := H1
    clear H1
    obtain rfl := Option.some.inj H
    go_wp2
    go_ret
    exact ⟨by first | rfl | (simp; done) | (simp [*]; done), by repeat (first | exact zaJ.refl _ | apply zaJ.step)⟩
   ·replace c7 := Bool.eq_false_iff.mpr c7
    subst c7
    have H1 : (zav.l0 kj1 a0 0) = some r := by rw [if_neg (show ¬ (false = true) by decide)] at H; exact H
    clear H
    have H := H1
    clear H1
    have H' := zab.mk H
    clear H
    go_wp2
    go_loopg [3] kj1 (fun kq v3 w' => ∃ (x3_2 : Int), v3 = .int .i64 x3_2 ∧ zab (zav.l0 kq a0 x3_2 = some r) ∧ zab (kq ≤ kj1) ∧ zaJ w w')
    case atStart => exact ⟨(0), (by first | rfl | (simp; done) | (simp [*]; done)), H', ⟨Nat.le_refl _⟩, by repeat (first | exact zaJ.refl _ | apply zaJ.step)⟩
    case round =>
     clear H'
     try clear c1
     try clear p2
     try clear c3
     try clear c3b0
     try clear c3b1
     try clear c4
     try clear c4b0
     try clear c4b1
     try clear c5
     try clear c5b0
     try clear c5b1
     try clear c7
     try clear p2
     obtain ⟨x3_2, rfl, HA, HK2, ⟨m2, rfl⟩⟩ := hrel
     cases gk with
     | zero => exact absurd HA.out (by simp [zav.l0])
     | succ k2 =>
      have H := HA.out
      clear HA
      simp only [zav.l0] at H
      by_cases c8 : x3_2 < (a0.size : Int)
      ·rw [if_pos c8] at H
       have c8b0 : decide (x3_2 < (a0.size : Int)) = true := decide_eq_true c8
       clear c8
       by_cases c9 : 0 ≤ x3_2
       ·rw [if_pos c9] at H
        have c9b0 : decide (0 ≤ x3_2) = true := decide_eq_true c9
        clear c9
        by_cases c11 : (bt a0 x3_2) = 47
        ·rw [if_pos c11] at H
         have c11b0 : ((bt a0 x3_2) == 47) = true := beq_iff_eq.mpr c11
         have c11b1 : ((bt a0 x3_2) != 47) = false := bne_eq_false_iff_eq.mpr c11
         clear c11
         obtain rfl := Option.some.inj H
         have p10 : 0 ≤ (x3_2 : Int) := of_decide_eq_true (by first | (with_reducible assumption) | assumption)
         have q10 : x3_2 < (a0.size : Int) := of_decide_eq_true (by first | (with_reducible assumption) | assumption)
         have hx10 := bt_at a0 x3_2
         replace p10 := eq_true p10
         replace q10 := eq_true q10
         go_wp2
         go_ret
         exact ⟨by first | rfl | (simp; done) | (simp [*]; done), by repeat (first | exact zaJ.refl _ | apply zaJ.step)⟩
        ·rw [if_neg c11] at H
         have c11b0 : ((bt a0 x3_2) == 47) = false := beq_eq_false_iff_ne.mpr c11
         have c11b1 : ((bt a0 x3_2) != 47) = true := bne_iff_ne.mpr c11
         have H' := zab.mk H
         clear H
         have p10 : 0 ≤ (x3_2 : Int) := of_decide_eq_true (by first | (with_reducible assumption) | assumption)
         have q10 : x3_2 < (a0.size : Int) := of_decide_eq_true (by first | (with_reducible assumption) | assumption)
         have hx10 := bt_at a0 x3_2
         replace p10 := eq_true p10
         replace q10 := eq_true q10
         go_wp2
         go_roundg k2
         case measure => have := HJ1.out; have := HK2.out; omega
         case rel => exact ⟨(wrap64 (x3_2 + 1)), (by first | rfl | (simp; done) | (simp [*]; done)), H', ⟨by have := HJ1.out; have := HK2.out; omega⟩, by repeat (first | exact zaJ.refl _ | apply zaJ.step)⟩
       ·rw [if_neg c9] at H
        exact absurd H (by simp)
      ·rw [if_neg c8] at H
       have c8b0 : decide (x3_2 < (a0.size : Int)) = false := decide_eq_false c8
       clear c8
       by_cases c12 : (a0.size : Int) > 64
       ·rw [if_pos c12] at H
        have c12b0 : decide (64 < (a0.size : Int)) = true := decide_eq_true c12
        have c12b1 : decide (64 < a0.size) = true := decide_eq_true (by omega)
        clear c12
        obtain rfl := Option.some.inj H
        go_wp2
        go_ret
        exact ⟨by first | rfl | (simp; done) | (simp [*]; done), by repeat (first | exact zaJ.refl _ | apply zaJ.step)⟩
       ·rw [if_neg c12] at H
        have c12b0 : decide (64 < (a0.size : Int)) = false := decide_eq_false c12
        have c12b1 : decide (64 < a0.size) = false := decide_eq_false (by omega)
        clear c12
        obtain rfl := Option.some.inj H
        go_wp2
        go_ret
        exact ⟨by first | rfl | (simp; done) | (simp [*]; done), by repeat (first | exact zaJ.refl _ | apply zaJ.step)⟩
def za8.f (a0 : Int) : Option (Bool) := if a0 ≥ 0 then (some (decide (a0 ≤ 1125899906842624))) else (some false)
set_option maxHeartbeats 8000000 in
set_option maxRecDepth 100000 in
theorem za8.calls (a0 : Int) (r : Bool) (w : World) (h : za8.f a0 = some r) :
  Calls Try.prog 20 #[.int .i64 a0] w fun e w' => e = .returned (.bool r) ∧ zaJ w w' := by
 have H : (if a0 ≥ 0 then (some (decide (a0 ≤ 1125899906842624))) else (some false)) = some r := h
 clear h
 by_cases c2 : a0 ≥ 0
 ·rw [if_pos c2] at H
  have c2b0 : decide (0 ≤ a0) = true := decide_eq_true c2
  clear c2
  obtain rfl := Option.some.inj H
  go_enter Try.func20, Try.ntmps20
  go_wp2
  go_ret
  exact ⟨by first | rfl | (simp; done) | (simp [*]; done), by repeat (first | exact zaJ.refl _ | apply zaJ.step)⟩
 ·rw [if_neg c2] at H
  have c2b0 : decide (0 ≤ a0) = false := decide_eq_false c2
  clear c2
  obtain rfl := Option.some.inj H
  go_enter Try.func20, Try.ntmps20
  go_wp2
  go_ret
  exact ⟨by first | rfl | (simp; done) | (simp [*]; done), by repeat (first | exact zaJ.refl _ | apply zaJ.step)⟩
theorem idx_ge (c : UInt8) : ∀ l : List UInt8, 0 ≤ Lib.indexByte l c ↔ c ∈ l
 | [] => by simp [Lib.indexByte]
 | b :: l => by
  have ih := idx_ge c l
  unfold Lib.indexByte
  by_cases h : b = c
  ·subst h; simp
  ·rw [if_neg (by simpa using h)]
   have hn : c ∈ b :: l ↔ c ∈ l := by simp [Ne.symm h]
   rw [hn, ← ih]
   by_cases h1 : Lib.indexByte l c = -1
   ·rw [if_pos (by simpa using h1), h1]
   ·rw [if_neg (by simpa using h1)]
    have := Lib.indexByte_ge l c
    omega
def bytesOf (s : ByteArray) : List UInt8 := s.data.toList
theorem bytesOf_len (s : ByteArray) : (bytesOf s).length = s.size := Array.length_toList
theorem bt_get (s : ByteArray) (i : Nat) (h : i < s.size) : bt s (i : Int) = ((bytesOf s)[i]'(by rw [bytesOf_len]; exact h)).toNat := by
 unfold bt
 rw [dif_pos (show ((i : Int)).toNat < s.size by omega)]
 rfl
theorem drop_has (l : List UInt8) (c : UInt8) (i : Nat) (h : i < l.length) : c ∈ l.drop i ↔ l[i] = c ∨ c ∈ l.drop (i + 1) := by
 rw [List.drop_eq_getElem_cons h, List.mem_cons]
 exact ⟨fun h => h.imp Eq.symm id, fun h => h.imp Eq.symm id⟩
theorem zero_l0 (s : ByteArray) (hm : s.size < 9223372036854775807) : ∀ (d i : Nat), i + d = s.size → EvB (fun k => zaI.l0 k s (i : Int)) ((0 : UInt8) ∈ (bytesOf s).drop i)
 | 0, i, h => EvB.step (EvB.no (by rw [List.drop_eq_nil_of_le (by rw [bytesOf_len]; omega)]; simp)) (fun k => by rw [zaI.l0, if_neg (by omega)])
 | d + 1, i, h => by
  have hi : i < (bytesOf s).length := by rw [bytesOf_len]; omega
  rw [drop_has _ _ _ hi]
  by_cases e : (bytesOf s)[i] = 0
  ·refine EvB.step (EvB.yes (.inl e)) (fun k => ?_)
   rw [zaI.l0, if_pos (by omega), if_pos (by omega), if_pos (by rw [bt_get s i (by omega), e]; rfl)]
  ·refine EvB.step ((zero_l0 s hm d (i + 1) (by omega)).iff ⟨.inr, fun h => h.resolve_left e⟩) (fun k => ?_)
   rw [zaI.l0, if_pos (by omega), if_pos (by omega), if_neg, up64 (by omega)]
   rw [bt_get s i (by omega)]
   intro h0
   exact e (UInt8.toNat_inj.1 (Int.ofNat.inj h0))
theorem zero_ev (s : ByteArray) (hm : s.size < 9223372036854775807) : EvB (fun k => zaI.f k s) ((0 : UInt8) ∈ bytesOf s) := zero_l0 s hm s.size 0 (by omega)
def zbI (s : ByteArray) : Int := if s.toList = ([] : List UInt8) ∨ s.toList = ([46] : List UInt8) ∨ s.toList = ([46, 46] : List UInt8) ∨ (0 : UInt8) ∈ bytesOf s ∨ (47 : UInt8) ∈ bytesOf s then 28 else if (s.size : Int) > 64 then 37 else 0
theorem zcj {s : ByteArray} (h : s.toList = ([] : List UInt8) ∨ s.toList = ([46] : List UInt8) ∨ s.toList = ([46, 46] : List UInt8) ∨ (0 : UInt8) ∈ bytesOf s ∨ (47 : UInt8) ∈ bytesOf s) : zbI s = 28 := if_pos h
theorem tree_name (k : Nat) (s : ByteArray) : zaD.f (k + 1) s = some (zbI s) := by
 have h0 := idx_ge 0 (bytesOf s)
 have h47 := idx_ge 47 (bytesOf s)
 unfold zaD.f
 by_cases c1 : s.toList = ([] : List UInt8)
 ·rw [if_pos c1, zcj (.inl c1), zaD.j0, if_pos rfl]
 rw [if_neg c1]
 by_cases c2 : s.toList = ([46] : List UInt8)
 ·rw [if_pos c2, zcj (.inr (.inl c2)), zaD.j0, if_pos rfl]
 rw [if_neg c2]
 by_cases c3 : s.toList = ([46, 46] : List UInt8)
 ·rw [if_pos c3, zcj (.inr (.inr (.inl c3))), zaD.j0, if_pos rfl]
 rw [if_neg c3]
 simp only [strings_IndexByte.f, Option.bind_some]
 change (if 0 ≤ Lib.indexByte (bytesOf s) 0 then _ else zaD.j0 (k + 1) s (decide (0 ≤ Lib.indexByte (bytesOf s) 47))) = _
 by_cases c4 : (0 : UInt8) ∈ bytesOf s
 ·rw [if_pos (h0.2 c4), zcj (.inr (.inr (.inr (.inl c4)))), zaD.j0, if_pos rfl]
 rw [if_neg (fun h => c4 (h0.1 h))]
 by_cases c5 : (47 : UInt8) ∈ bytesOf s
 ·rw [zcj (.inr (.inr (.inr (.inr c5)))), zaD.j0, if_pos (decide_eq_true (h47.2 c5))]
 rw [zaD.j0, if_neg (by rw [decide_eq_true_eq]; exact fun h => c5 (h47.1 h))]
 have hno : ¬ (s.toList = ([] : List UInt8) ∨ s.toList = ([46] : List UInt8) ∨ s.toList = ([46, 46] : List UInt8) ∨ (0 : UInt8) ∈ bytesOf s ∨ (47 : UInt8) ∈ bytesOf s) := fun h => by
  rcases h with h | h | h | h | h
  ·exact c1 h
  ·exact c2 h
  ·exact c3 h
  ·exact c4 h
  ·exact c5 h
 unfold zbI
 rw [if_neg hno]
 by_cases c6 : (s.size : Int) > 64
 ·rw [if_pos c6, if_pos c6]
 ·rw [if_neg c6, if_neg c6]
theorem tree_name_ev (s : ByteArray) : Ev (fun k => zaD.f k s) (zbI s) := ⟨1, fun k hk => by obtain ⟨m, rfl⟩ : ∃ m, k = m + 1 := ⟨k - 1, by omega⟩; exact tree_name m s⟩
theorem nameE_P (s : ByteArray) : nameE s = zbI s := by
 have h1 := nameE_f s
 rw [tree_name 0 s] at h1
 exact (Option.some.inj h1).symm
theorem name_l0 (s : ByteArray) (hm : s.size < 9223372036854775807) : ∀ (d i : Nat), i + d = s.size → Ev (fun k => zav.l0 k s (i : Int)) (if (47 : UInt8) ∈ (bytesOf s).drop i then 28 else if (s.size : Int) > 64 then 37 else 0)
 | 0, i, h => by
  rw [if_neg (by rw [List.drop_eq_nil_of_le (by rw [bytesOf_len]; omega)]; simp)]
  refine Ev.step (f := fun _ => some _) (fun k => ?_) (Ev.now _)
  rw [zav.l0, if_neg (by omega)]
  split <;> rfl
 | d + 1, i, h => by
  have hi : i < (bytesOf s).length := by rw [bytesOf_len]; omega
  by_cases e : (bytesOf s)[i] = 47
  ·rw [if_pos ((drop_has _ _ _ hi).2 (.inl e))]
   refine Ev.step (f := fun _ => some 28) (fun k => ?_) (Ev.now _)
   rw [zav.l0, if_pos (by omega), if_pos (by omega), if_pos (by rw [bt_get s i (by omega), e]; rfl)]
  ·have e2 : ((47 : UInt8) ∈ (bytesOf s).drop i) = ((47 : UInt8) ∈ (bytesOf s).drop (i + 1)) := propext ((drop_has _ _ _ hi).trans ⟨fun h => h.resolve_left e, .inr⟩)
   have ih := name_l0 s hm d (i + 1) (by omega)
   simp only [e2]
   refine Ev.step (fun k => ?_) ih
   rw [zav.l0, if_pos (by omega), if_pos (by omega), if_neg, up64 (by omega)]
   rw [bt_get s i (by omega)]
   intro h0
   exact e (UInt8.toNat_inj.1 (Int.ofNat.inj h0))
theorem page_name (s : ByteArray) (hm : s.size < 9223372036854775807) : Ev (fun k => zav.f k s) (zbI s) := by
 have j1 : Ev (fun k => zav.j0 k s true) 28 := Ev.step (f := fun _ => some 28) (fun k => by rw [zav.j0, if_pos rfl]) (Ev.now _)
 unfold zav.f
 by_cases c1 : s.toList = ([] : List UInt8)
 ·rw [zcj (.inl c1)]; exact Ev.congr (fun k => if_pos c1) j1
 by_cases c2 : s.toList = ([46] : List UInt8)
 ·rw [zcj (.inr (.inl c2))]; exact Ev.congr (fun k => by rw [if_neg c1, if_pos c2]) j1
 by_cases c3 : s.toList = ([46, 46] : List UInt8)
 ·rw [zcj (.inr (.inr (.inl c3)))]; exact Ev.congr (fun k => by rw [if_neg c1, if_neg c2, if_pos c3]) j1
 refine Ev.congr (fun k => by rw [if_neg c1, if_neg c2, if_neg c3]) ?_
 by_cases c4 : (0 : UInt8) ∈ bytesOf s
 ·rw [zcj (.inr (.inr (.inr (.inl c4))))]
  exact Ev.bind (f := fun k t => zav.j0 k s t) ((zero_ev s hm).out c4) j1
 ·refine Ev.bind (f := fun k t => zav.j0 k s t) ((zero_ev s hm).not c4) ?_
  have e : zbI s = if (47 : UInt8) ∈ (bytesOf s).drop 0 then 28 else if (s.size : Int) > 64 then 37 else 0 := by
   unfold zbI; simp only [c1, c2, c3, c4, false_or, List.drop_zero]
  rw [e]
  exact Ev.step (fun k => by rw [zav.j0, if_neg (by simp)]; rfl) (name_l0 s hm s.size 0 (by omega))
def TimeP (t : Int) : Prop := 0 ≤ t ∧ t ≤ 1125899906842624
theorem page_time (t : Int) : ∃ b, za8.f t = some b ∧ (b = true ↔ TimeP t) := by
 unfold za8.f TimeP
 by_cases h : t ≥ 0
 ·exact ⟨_, if_pos h, by rw [decide_eq_true_eq]; exact ⟨fun h1 => ⟨h, h1⟩, And.right⟩⟩
 ·exact ⟨_, if_neg h, by simp; omega⟩
theorem tree_time_ (t : Int) : ∃ b, za2.f t = some b ∧ (b = true ↔ TimeP t) := by
 unfold za2.f TimeP
 by_cases h : t ≥ 0
 ·exact ⟨_, if_pos h, by rw [decide_eq_true_eq]; exact ⟨fun h1 => ⟨h, h1⟩, And.right⟩⟩
 ·exact ⟨_, if_neg h, by simp; omega⟩
def okR (ns : List S66) (i : Nat) : Prop := zbI (zat ns (i : Int)).f0 = 0 ∧ (i = 0 ∨ Op.bytesLess (zat ns ((i : Int) - 1)).f0.toList (zat ns (i : Int)).f0.toList = true)
def zbN (l : List S45) (x : S66) : Prop := 1 ≤ x.f1 ∧ x.f1 < (l.length : Int) ∧ (zaf l x.f1).f0 ≠ 0
theorem okName_iff (l : List S45) (ns : List S66) (i : Nat) : okName l ns i = true ↔ okR ns i ∧ zbN l (zat ns (i : Int)) := by
 unfold okName okR zbN
 rw [nameE_P]
 simp only [Bool.and_eq_true, Bool.or_eq_true, beq_iff_eq, decide_eq_true_eq, bne_iff_ne, ne_eq]
theorem names_mem {ns : List S66} {P : S66 → Prop} : (∀ x ∈ ns, P x) ↔ ∀ i, i < ns.length → P (zat ns (i : Int)) := by
 constructor
 ·intro h i hi; rw [zbP ns i hi]; exact h _ (List.getElem_mem _)
 ·intro h x hx
  obtain ⟨i, hi, rfl⟩ := List.getElem_of_mem hx
  rw [← zbP ns i hi]; exact h i hi
theorem okNames_iff (l : List S45) (ns : List S66) (n : Nat) : okNames l ns n = true ↔ ∀ i, i < n → okR ns i ∧ zbN l (zat ns (i : Int)) := by
 unfold okNames
 simp only [List.all_eq_true, List.mem_range, okName_iff]
def zcc (x : S45) : Prop :=
 (x.f0 = 0 ∧ x = z45) ∨ (x.f0 = 1 ∧ TimeP x.f5 ∧ x.f1.length ≤ 16384 ∧ x.f2 = [] ∧ x.f3 = ⟨#[]⟩) ∨
 (x.f0 = 2 ∧ TimeP x.f5 ∧ x.f2.length ≤ 64 ∧ (∀ i, i < x.f2.length → okR x.f2 i) ∧ x.f1 = [] ∧ x.f3 = ⟨#[]⟩) ∨
 (x.f0 = 3 ∧ TimeP x.f5 ∧ x.f3 ≠ ⟨#[]⟩ ∧ x.f3.size ≤ 512 ∧ (0 : UInt8) ∉ bytesOf x.f3 ∧ x.f1 = [] ∧ x.f2 = [])
def zbO.f (a0 : ByteArray) : Option (Bool) := if a0.toList = ([] : List UInt8) then (some false) else (if (a0.size : Int) ≤ 512 then ((strings_IndexByte.f a0 0).bind fun t150 => (some (decide (t150 < 0)))) else (some false))
set_option maxHeartbeats 8000000 in
set_option maxRecDepth 100000 in
theorem zbO.calls (a0 : ByteArray) (r : Bool) (w : World) (h : zbO.f a0 = some r) :
  Calls Try.prog 73 #[.string a0] w fun e w' => e = .returned (.bool r) ∧ zaJ w w' := by
 have H : (if a0.toList = ([] : List UInt8) then (some false) else (if (a0.size : Int) ≤ 512 then ((strings_IndexByte.f a0 0).bind fun t150 => (some (decide (t150 < 0)))) else (some false))) = some r := h
 clear h
 by_cases c2 : a0.toList = ([] : List UInt8)
 ·rw [if_pos c2] at H
  have c2b0 : (a0.toList == ([] : List UInt8)) = true := beq_iff_eq.mpr c2
  have c2b1 : (a0.toList != ([] : List UInt8)) = false := bne_eq_false_iff_eq.mpr c2
  clear c2
  obtain rfl := Option.some.inj H
  go_enter Try.func73, Try.ntmps73
  go_wp2
  go_ret
  exact ⟨by first | rfl | (simp; done) | (simp [*]; done), by repeat (first | exact zaJ.refl _ | apply zaJ.step)⟩
 ·rw [if_neg c2] at H
  have c2b0 : (a0.toList == ([] : List UInt8)) = false := beq_eq_false_iff_ne.mpr c2
  have c2b1 : (a0.toList != ([] : List UInt8)) = true := bne_iff_ne.mpr c2
  by_cases c3 : (a0.size : Int) ≤ 512
  ·rw [if_pos c3] at H
   have c3b0 : decide ((a0.size : Int) ≤ 512) = true := decide_eq_true c3
   have c3b1 : decide (a0.size ≤ 512) = true := decide_eq_true (by omega)
   clear c3
   replace H := Option.bind_eq_some_iff.mp H
   obtain ⟨t150, A40, H⟩ := H
   replace H : (some (decide (t150 < 0))) = some r := H
   have A4 := zab.mk A40
   clear A40
   obtain rfl := Option.some.inj H
   go_enter Try.func73, Try.ntmps73
   go_wp2_with (first | (go_at_call 37; (with_reducible refine (strings_IndexByte.calls a0 0 t150 _ A4.out).mono ?_); rintro e w' ⟨rfl, ⟨nd, rfl⟩⟩))
   go_ret
   exact ⟨by first | rfl | (simp; done) | (simp [*]; done), by repeat (first | exact zaJ.refl _ | apply zaJ.step)⟩
  ·rw [if_neg c3] at H
   have c3b0 : decide ((a0.size : Int) ≤ 512) = false := decide_eq_false c3
   have c3b1 : decide (a0.size ≤ 512) = false := decide_eq_false (by omega)
   clear c3
   obtain rfl := Option.some.inj H
   go_enter Try.func73, Try.ntmps73
   go_wp2
   go_ret
   exact ⟨by first | rfl | (simp; done) | (simp [*]; done), by repeat (first | exact zaJ.refl _ | apply zaJ.step)⟩
def tree_node.f (l0_0 : List (S45)) (a1_0 : Int) (l1_1 : List Int) (l1_2 : List (S66)) (a1_3 : ByteArray) (a1_4 : Int) (a1_5 : Int) : Option (Bool) := if a1_0 = 0 then (if (wrap64 ((l1_1.length : Int) + (l1_2.length : Int))) = 0 then (if a1_3.toList = ([] : List UInt8) then (if a1_4 = 0 then (some (a1_5 == 0)) else (some false)) else (some false)) else (some false)) else (if a1_0 = 1 then (if (l1_1.length : Int) ≤ 16384 then (if (l1_2.length : Int) = 0 then (if a1_3.toList = ([] : List UInt8) then ((za2.f a1_5).bind fun t153 => (some t153)) else (some false)) else (some false)) else (some false)) else (if a1_0 = 2 then (if (l1_1.length : Int) = 0 then (if a1_3.toList = ([] : List UInt8) then ((za2.f a1_5).bind fun t154 => (if t154 = true then ((zcg.f l0_0 l1_2).bind fun t155 => (some t155)) else (some false))) else (some false)) else (some false)) else (if a1_0 = 3 then (if (wrap64 ((l1_1.length : Int) + (l1_2.length : Int))) = 0 then ((zbO.f a1_3).bind fun t156 => (if t156 = true then ((za2.f a1_5).bind fun t157 => (some t157)) else (some false))) else (some false)) else (some false))))
set_option maxHeartbeats 8000000 in
set_option maxRecDepth 100000 in
theorem tree_node.calls (A0_0 : Option Addr) (c0_0 : Nat) (l0_0 : List (S45)) (a1_0 : Int) (A1_1 : Option Addr) (c1_1 : Nat) (l1_1 : List Int) (A1_2 : Option Addr) (c1_2 : Nat) (l1_2 : List (S66)) (a1_3 : ByteArray) (a1_4 : Int) (a1_5 : Int) (r : Bool) (w : World) (hr0_0 : Kd.C k45 w A0_0 l0_0.length l0_0) (hc0_0 : l0_0.length ≤ c0_0) (hr1_1 : Kd.C (Kd.int .u8) w A1_1 l1_1.length l1_1) (hc1_1 : l1_1.length ≤ c1_1) (hr1_2 : Kd.C k66 w A1_2 l1_2.length l1_2) (hc1_2 : l1_2.length ≤ c1_2) (h : tree_node.f l0_0 a1_0 l1_1 l1_2 a1_3 a1_4 a1_5 = some r) :
  Calls Try.prog 59 #[.agg #[.slice A0_0 l0_0.length c0_0], .agg #[.int .i64 a1_0, .slice A1_1 l1_1.length c1_1, .slice A1_2 l1_2.length c1_2, .string a1_3, .int .i64 a1_4, .int .i64 a1_5]] w fun e w' => e = .returned (.bool r) ∧ Below w.heap.size w w' := by
 have hu24 := Try.underlying24
 have hu45 := Try.underlying45
 have HR0_0 := zab.mk hr0_0
 have HC0_0 := zab.mk hc0_0
 clear hr0_0 hc0_0
 have HR1_1 := zab.mk hr1_1
 have HC1_1 := zab.mk hc1_1
 clear hr1_1 hc1_1
 have HR1_2 := zab.mk hr1_2
 have HC1_2 := zab.mk hc1_2
 clear hr1_2 hc1_2
 have HB := zab.mk (Below.refl w.heap.size w)
 have H : (if a1_0 = 0 then (if (wrap64 ((l1_1.length : Int) + (l1_2.length : Int))) = 0 then (if a1_3.toList = ([] : List UInt8) then (if a1_4 = 0 then (some (a1_5 == 0)) else (some false)) else (some false)) else (some false)) else (if a1_0 = 1 then (if (l1_1.length : Int) ≤ 16384 then (if (l1_2.length : Int) = 0 then (if a1_3.toList = ([] : List UInt8) then ((za2.f a1_5).bind fun t153 => (some t153)) else (some false)) else (some false)) else (some false)) else (if a1_0 = 2 then (if (l1_1.length : Int) = 0 then (if a1_3.toList = ([] : List UInt8) then ((za2.f a1_5).bind fun t154 => (if t154 = true then ((zcg.f l0_0 l1_2).bind fun t155 => (some t155)) else (some false))) else (some false)) else (some false)) else (if a1_0 = 3 then (if (wrap64 ((l1_1.length : Int) + (l1_2.length : Int))) = 0 then ((zbO.f a1_3).bind fun t156 => (if t156 = true then ((za2.f a1_5).bind fun t157 => (some t157)) else (some false))) else (some false)) else (some false))))) = some r := h
 clear h
 by_cases c3 : a1_0 = 0
 ·rw [if_pos c3] at H
  have c3b0 : (a1_0 == 0) = true := beq_iff_eq.mpr c3
  have c3b1 : (a1_0 != 0) = false := bne_eq_false_iff_eq.mpr c3
  clear c3
  by_cases c4 : (wrap64 ((l1_1.length : Int) + (l1_2.length : Int))) = 0
  ·rw [if_pos c4] at H
   have c4b0 : ((wrap64 ((l1_1.length : Int) + (l1_2.length : Int))) == 0) = true := beq_iff_eq.mpr c4
   have c4b1 : ((wrap64 ((l1_1.length : Int) + (l1_2.length : Int))) != 0) = false := bne_eq_false_iff_eq.mpr c4
   clear c4
   by_cases c5 : a1_3.toList = ([] : List UInt8)
   ·rw [if_pos c5] at H
    have c5b0 : (a1_3.toList == ([] : List UInt8)) = true := beq_iff_eq.mpr c5
    have c5b1 : (a1_3.toList != ([] : List UInt8)) = false := bne_eq_false_iff_eq.mpr c5
    clear c5
    by_cases c6 : a1_4 = 0
    ·rw [if_pos c6] at H
     have c6b0 : (a1_4 == 0) = true := beq_iff_eq.mpr c6
     have c6b1 : (a1_4 != 0) = false := bne_eq_false_iff_eq.mpr c6
     clear c6
     obtain rfl := Option.some.inj H
     go_enter Try.func59, Try.ntmps59
     go_wp2_with (first | ((with_reducible refine zay (N := 2) rfl ?_); (try (refine zaN (by rfl) ?_; dsimp only)); refine zax ?hg (N := 2) ?hd (cs := #[.slice A0_0 l0_0.length c0_0]) (t := 24) ?hr ?_; (case hd => rfl); (case hg => rfl); (case hr => first | (go_simp; done) | (go_simp; rfl)); intro gb151 hg w7 hbox hb; have n0_ := zab.mk (zak (by repeat (first | (with_reducible first | exact HB.out | apply zac | apply zaa | apply zad) | exact HB.out)) hb); have n1_ := zab.mk (hbox); have n2_ := zab.mk ((by rw [hg]; exact (zan (by repeat (first | (with_reducible first | exact HB.out | apply zac | apply zaa | apply zad) | exact HB.out))) : w.heap.size ≤ gb151)); have n3_ := zab.mk ((by rw [hg]; exact (zan (by repeat (first | (with_reducible first | exact HB.out | apply zac | apply zaa | apply zad) | exact HB.out))) : w.heap.size ≤ gb151)); clear HB; have HB := n0_; have BK151 := n1_; have GW151 := n2_; have GE151 := n3_; clear n0_ n1_ n2_ n3_; clear hb hbox hg) | ((with_reducible refine zay (N := 3) rfl ?_); (try (refine zaN (by rfl) ?_; dsimp only)); refine zax ?hg (N := 3) ?hd (cs := #[.int .i64 a1_0, .slice A1_1 l1_1.length c1_1, .slice A1_2 l1_2.length c1_2, .string a1_3, .int .i64 a1_4, .int .i64 a1_5]) (t := 45) ?hr ?_; (case hd => rfl); (case hg => rfl); (case hr => first | (go_simp; done) | (go_simp; rfl)); intro gb152 hg w8 hbox hb; have n0_ := zab.mk (zas (g := gb151) (o := .cells #[.slice A0_0 l0_0.length c0_0] 24 (0, 0)) (by (with_reducible repeat (first | refine zal ?_ _ | refine zam ?_ | refine zaj ?_ _)); exact BK151.out) hb); have n1_ := zab.mk (zak (by repeat (first | (with_reducible first | exact HB.out | apply zac | apply zaa | apply zad | refine zai ?_ GE151.out) | exact HB.out)) hb); have n2_ := zab.mk (hbox); have n3_ := zab.mk ((by rw [hg]; exact (zan (by repeat (first | (with_reducible first | exact HB.out | apply zac | apply zaa | apply zad | refine zai ?_ GE151.out) | exact HB.out))) : w.heap.size ≤ gb152)); have n4_ := zab.mk ((by rw [hg]; exact (zan (by repeat (first | (with_reducible first | exact HB.out | apply zac | apply zaa | apply zad | refine zai ?_ GE151.out) | exact HB.out))) : w.heap.size ≤ gb152)); have n5_ := zab.mk ((by rw [hg]; exact Nat.ne_of_lt (zaL (g := gb151) (o := .cells #[.slice A0_0 l0_0.length c0_0] 24 (0, 0)) (by (with_reducible repeat (first | refine zal ?_ _ | refine zam ?_ | refine zaj ?_ _)); exact BK151.out)) : gb151 ≠ gb152)); have n6_ := zab.mk ((by rw [hg]; exact Nat.ne_of_gt (zaL (g := gb151) (o := .cells #[.slice A0_0 l0_0.length c0_0] 24 (0, 0)) (by (with_reducible repeat (first | refine zal ?_ _ | refine zam ?_ | refine zaj ?_ _)); exact BK151.out)) : gb152 ≠ gb151)); clear BK151; clear HB; have BK151 := n0_; have HB := n1_; have BK152 := n2_; have GW152 := n3_; have GE152 := n4_; have NB151_152 := n5_; have NB152_151 := n6_; clear n0_ n1_ n2_ n3_ n4_ n5_ n6_; clear hb hbox hg; have hnb9 := NB152_151.out; have hnc9 := NB151_152.out; have hcz10_0 : w8.cell? ⟨gb152, 0, none⟩ = some (.int .i64 a1_0) := (zah BK152.out 0).trans rfl; have hcz10_1 : w8.cell? ⟨gb152, 1, none⟩ = some (.slice A1_1 l1_1.length c1_1) := (zah BK152.out 1).trans rfl; have hcz10_2 : w8.cell? ⟨gb152, 2, none⟩ = some (.slice A1_2 l1_2.length c1_2) := (zah BK152.out 2).trans rfl; have hcz10_3 : w8.cell? ⟨gb152, 3, none⟩ = some (.string a1_3) := (zah BK152.out 3).trans rfl; have hcz10_4 : w8.cell? ⟨gb152, 4, none⟩ = some (.int .i64 a1_4) := (zah BK152.out 4).trans rfl; have hcz10_5 : w8.cell? ⟨gb152, 5, none⟩ = some (.int .i64 a1_5) := (zah BK152.out 5).trans rfl; have hfz10_0 := zae BK152.out 0; have hfz10_1 := zae BK152.out 1; have hfz10_2 := zae BK152.out 2; have hfz10_3 := zae BK152.out 3; have hfz10_4 := zae BK152.out 4; have hfz10_5 := zae BK152.out 5))
     go_ret
     exact ⟨by first | rfl | (simp [zar, zaq] <;> rfl) | (simp [*, zar, zaq] <;> rfl), by repeat (first | (with_reducible first | exact HB.out | apply zac | apply zaa | apply zad | refine zai ?_ GE151.out | refine zai ?_ GE152.out) | exact HB.out)⟩
    ·rw [if_neg c6] at H
     have c6b0 : (a1_4 == 0) = false := beq_eq_false_iff_ne.mpr c6
     have c6b1 : (a1_4 != 0) = true := bne_iff_ne.mpr c6
     obtain rfl := Option.some.inj H
     go_enter Try.func59, Try.ntmps59
     go_wp2_with (first | ((with_reducible refine zay (N := 2) rfl ?_); (try (refine zaN (by rfl) ?_; dsimp only)); refine zax ?hg (N := 2) ?hd (cs := #[.slice A0_0 l0_0.length c0_0]) (t := 24) ?hr ?_; (case hd => rfl); (case hg => rfl); (case hr => first | (go_simp; done) | (go_simp; rfl)); intro gb151 hg w11 hbox hb; have n0_ := zab.mk (zak (by repeat (first | (with_reducible first | exact HB.out | apply zac | apply zaa | apply zad) | exact HB.out)) hb); have n1_ := zab.mk (hbox); have n2_ := zab.mk ((by rw [hg]; exact (zan (by repeat (first | (with_reducible first | exact HB.out | apply zac | apply zaa | apply zad) | exact HB.out))) : w.heap.size ≤ gb151)); have n3_ := zab.mk ((by rw [hg]; exact (zan (by repeat (first | (with_reducible first | exact HB.out | apply zac | apply zaa | apply zad) | exact HB.out))) : w.heap.size ≤ gb151)); clear HB; have HB := n0_; have BK151 := n1_; have GW151 := n2_; have GE151 := n3_; clear n0_ n1_ n2_ n3_; clear hb hbox hg) | ((with_reducible refine zay (N := 3) rfl ?_); (try (refine zaN (by rfl) ?_; dsimp only)); refine zax ?hg (N := 3) ?hd (cs := #[.int .i64 a1_0, .slice A1_1 l1_1.length c1_1, .slice A1_2 l1_2.length c1_2, .string a1_3, .int .i64 a1_4, .int .i64 a1_5]) (t := 45) ?hr ?_; (case hd => rfl); (case hg => rfl); (case hr => first | (go_simp; done) | (go_simp; rfl)); intro gb152 hg w12 hbox hb; have n0_ := zab.mk (zas (g := gb151) (o := .cells #[.slice A0_0 l0_0.length c0_0] 24 (0, 0)) (by (with_reducible repeat (first | refine zal ?_ _ | refine zam ?_ | refine zaj ?_ _)); exact BK151.out) hb); have n1_ := zab.mk (zak (by repeat (first | (with_reducible first | exact HB.out | apply zac | apply zaa | apply zad | refine zai ?_ GE151.out) | exact HB.out)) hb); have n2_ := zab.mk (hbox); have n3_ := zab.mk ((by rw [hg]; exact (zan (by repeat (first | (with_reducible first | exact HB.out | apply zac | apply zaa | apply zad | refine zai ?_ GE151.out) | exact HB.out))) : w.heap.size ≤ gb152)); have n4_ := zab.mk ((by rw [hg]; exact (zan (by repeat (first | (with_reducible first | exact HB.out | apply zac | apply zaa | apply zad | refine zai ?_ GE151.out) | exact HB.out))) : w.heap.size ≤ gb152)); have n5_ := zab.mk ((by rw [hg]; exact Nat.ne_of_lt (zaL (g := gb151) (o := .cells #[.slice A0_0 l0_0.length c0_0] 24 (0, 0)) (by (with_reducible repeat (first | refine zal ?_ _ | refine zam ?_ | refine zaj ?_ _)); exact BK151.out)) : gb151 ≠ gb152)); have n6_ := zab.mk ((by rw [hg]; exact Nat.ne_of_gt (zaL (g := gb151) (o := .cells #[.slice A0_0 l0_0.length c0_0] 24 (0, 0)) (by (with_reducible repeat (first | refine zal ?_ _ | refine zam ?_ | refine zaj ?_ _)); exact BK151.out)) : gb152 ≠ gb151)); clear BK151; clear HB; have BK151 := n0_; have HB := n1_; have BK152 := n2_; have GW152 := n3_; have GE152 := n4_; have NB151_152 := n5_; have NB152_151 := n6_; clear n0_ n1_ n2_ n3_ n4_ n5_ n6_; clear hb hbox hg; have hnb13 := NB152_151.out; have hnc13 := NB151_152.out; have hcz14_0 : w12.cell? ⟨gb152, 0, none⟩ = some (.int .i64 a1_0) := (zah BK152.out 0).trans rfl; have hcz14_1 : w12.cell? ⟨gb152, 1, none⟩ = some (.slice A1_1 l1_1.length c1_1) := (zah BK152.out 1).trans rfl; have hcz14_2 : w12.cell? ⟨gb152, 2, none⟩ = some (.slice A1_2 l1_2.length c1_2) := (zah BK152.out 2).trans rfl; have hcz14_3 : w12.cell? ⟨gb152, 3, none⟩ = some (.string a1_3) := (zah BK152.out 3).trans rfl; have hcz14_4 : w12.cell? ⟨gb152, 4, none⟩ = some (.int .i64 a1_4) := (zah BK152.out 4).trans rfl; have hcz14_5 : w12.cell? ⟨gb152, 5, none⟩ = some (.int .i64 a1_5) := (zah BK152.out 5).trans rfl; have hfz14_0 := zae BK152.out 0; have hfz14_1 := zae BK152.out 1; have hfz14_2 := zae BK152.out 2; have hfz14_3 := zae BK152.out 3; have hfz14_4 := zae BK152.out 4; have hfz14_5 := zae BK152.out 5))
     go_ret
     exact ⟨by first | rfl | (simp [zar, zaq] <;> rfl) | (simp [*, zar, zaq] <;> rfl), by repeat (first | (with_reducible first | exact HB.out | apply zac | apply zaa | apply zad | refine zai ?_ GE151.out | refine zai ?_ GE152.out) | exact HB.out)⟩
   ·rw [if_neg c5] at H
    have c5b0 : (a1_3.toList == ([] : List UInt8)) = false := beq_eq_false_iff_ne.mpr c5
    have c5b1 : (a1_3.toList != ([] : List UInt8)) = true := bne_iff_ne.mpr c5
    obtain rfl := Option.some.inj H
    go_enter Try.func59, Try.ntmps59
    go_wp2_with (first | ((with_reducible refine zay (N := 2) rfl ?_); (try (refine zaN (by rfl) ?_; dsimp only)); refine zax ?hg (N := 2) ?hd (cs := #[.slice A0_0 l0_0.length c0_0]) (t := 24) ?hr ?_; (case hd => rfl); (case hg => rfl); (case hr => first | (go_simp; done) | (go_simp; rfl)); intro gb151 hg w15 hbox hb; have n0_ := zab.mk (zak (by repeat (first | (with_reducible first | exact HB.out | apply zac | apply zaa | apply zad) | exact HB.out)) hb); have n1_ := zab.mk (hbox); have n2_ := zab.mk ((by rw [hg]; exact (zan (by repeat (first | (with_reducible first | exact HB.out | apply zac | apply zaa | apply zad) | exact HB.out))) : w.heap.size ≤ gb151)); have n3_ := zab.mk ((by rw [hg]; exact (zan (by repeat (first | (with_reducible first | exact HB.out | apply zac | apply zaa | apply zad) | exact HB.out))) : w.heap.size ≤ gb151)); clear HB; have HB := n0_; have BK151 := n1_; have GW151 := n2_; have GE151 := n3_; clear n0_ n1_ n2_ n3_; clear hb hbox hg) | ((with_reducible refine zay (N := 3) rfl ?_); (try (refine zaN (by rfl) ?_; dsimp only)); refine zax ?hg (N := 3) ?hd (cs := #[.int .i64 a1_0, .slice A1_1 l1_1.length c1_1, .slice A1_2 l1_2.length c1_2, .string a1_3, .int .i64 a1_4, .int .i64 a1_5]) (t := 45) ?hr ?_; (case hd => rfl); (case hg => rfl); (case hr => first | (go_simp; done) | (go_simp; rfl)); intro gb152 hg w16 hbox hb; have n0_ := zab.mk (zas (g := gb151) (o := .cells #[.slice A0_0 l0_0.length c0_0] 24 (0, 0)) (by (with_reducible repeat (first | refine zal ?_ _ | refine zam ?_ | refine zaj ?_ _)); exact BK151.out) hb); have n1_ := zab.mk (zak (by repeat (first | (with_reducible first | exact HB.out | apply zac | apply zaa | apply zad | refine zai ?_ GE151.out) | exact HB.out)) hb); have n2_ := zab.mk (hbox); have n3_ := zab.mk ((by rw [hg]; exact (zan (by repeat (first | (with_reducible first | exact HB.out | apply zac | apply zaa | apply zad | refine zai ?_ GE151.out) | exact HB.out))) : w.heap.size ≤ gb152)); have n4_ := zab.mk ((by rw [hg]; exact (zan (by repeat (first | (with_reducible first | exact HB.out | apply zac | apply zaa | apply zad | refine zai ?_ GE151.out) | exact HB.out))) : w.heap.size ≤ gb152)); have n5_ := zab.mk ((by rw [hg]; exact Nat.ne_of_lt (zaL (g := gb151) (o := .cells #[.slice A0_0 l0_0.length c0_0] 24 (0, 0)) (by (with_reducible repeat (first | refine zal ?_ _ | refine zam ?_ | refine zaj ?_ _)); exact BK151.out)) : gb151 ≠ gb152)); have n6_ := zab.mk ((by rw [hg]; exact Nat.ne_of_gt (zaL (g := gb151) (o := .cells #[.slice A0_0 l0_0.length c0_0] 24 (0, 0)) (by (with_reducible repeat (first | refine zal ?_ _ | refine zam ?_ | refine zaj ?_ _)); exact BK151.out)) : gb152 ≠ gb151)); clear BK151; clear HB; have BK151 := n0_; have HB := n1_; have BK152 := n2_; have GW152 := n3_; have GE152 := n4_; have NB151_152 := n5_; have NB152_151 := n6_; clear n0_ n1_ n2_ n3_ n4_ n5_ n6_; clear hb hbox hg; have hnb17 := NB152_151.out; have hnc17 := NB151_152.out; have hcz18_0 : w16.cell? ⟨gb152, 0, none⟩ = some (.int .i64 a1_0) := (zah BK152.out 0).trans rfl; have hcz18_1 : w16.cell? ⟨gb152, 1, none⟩ = some (.slice A1_1 l1_1.length c1_1) := (zah BK152.out 1).trans rfl; have hcz18_2 : w16.cell? ⟨gb152, 2, none⟩ = some (.slice A1_2 l1_2.length c1_2) := (zah BK152.out 2).trans rfl; have hcz18_3 : w16.cell? ⟨gb152, 3, none⟩ = some (.string a1_3) := (zah BK152.out 3).trans rfl; have hcz18_4 : w16.cell? ⟨gb152, 4, none⟩ = some (.int .i64 a1_4) := (zah BK152.out 4).trans rfl; have hcz18_5 : w16.cell? ⟨gb152, 5, none⟩ = some (.int .i64 a1_5) := (zah BK152.out 5).trans rfl; have hfz18_0 := zae BK152.out 0; have hfz18_1 := zae BK152.out 1; have hfz18_2 := zae BK152.out 2; have hfz18_3 := zae BK152.out 3; have hfz18_4 := zae BK152.out 4; have hfz18_5 := zae BK152.out 5))
    go_ret
    exact ⟨by first | rfl | (simp [zar, zaq] <;> rfl) | (simp [*, zar, zaq] <;> rfl), by repeat (first | (with_reducible first | exact HB.out | apply zac | apply zaa | apply zad | refine zai ?_ GE151.out | refine zai ?_ GE152.out) | exact HB.out)⟩
  ·rw [if_neg c4] at H
   have c4b0 : ((wrap64 ((l1_1.length : Int) + (l1_2.length : Int))) == 0) = false := beq_eq_false_iff_ne.mpr c4
   have c4b1 : ((wrap64 ((l1_1.length : Int) + (l1_2.length : Int))) != 0) = true := bne_iff_ne.mpr c4
   obtain rfl := Option.some.inj H
   go_enter Try.func59, Try.ntmps59
   go_wp2_with (first | ((with_reducible refine zay (N := 2) rfl ?_); (try (refine zaN (by rfl) ?_; dsimp only)); refine zax ?hg (N := 2) ?hd (cs := #[.slice A0_0 l0_0.length c0_0]) (t := 24) ?hr ?_; (case hd => rfl); (case hg => rfl); (case hr => first | (go_simp; done) | (go_simp; rfl)); intro gb151 hg w19 hbox hb; have n0_ := zab.mk (zak (by repeat (first | (with_reducible first | exact HB.out | apply zac | apply zaa | apply zad) | exact HB.out)) hb); have n1_ := zab.mk (hbox); have n2_ := zab.mk ((by rw [hg]; exact (zan (by repeat (first | (with_reducible first | exact HB.out | apply zac | apply zaa | apply zad) | exact HB.out))) : w.heap.size ≤ gb151)); have n3_ := zab.mk ((by rw [hg]; exact (zan (by repeat (first | (with_reducible first | exact HB.out | apply zac | apply zaa | apply zad) | exact HB.out))) : w.heap.size ≤ gb151)); clear HB; have HB := n0_; have BK151 := n1_; have GW151 := n2_; have GE151 := n3_; clear n0_ n1_ n2_ n3_; clear hb hbox hg) | ((with_reducible refine zay (N := 3) rfl ?_); (try (refine zaN (by rfl) ?_; dsimp only)); refine zax ?hg (N := 3) ?hd (cs := #[.int .i64 a1_0, .slice A1_1 l1_1.length c1_1, .slice A1_2 l1_2.length c1_2, .string a1_3, .int .i64 a1_4, .int .i64 a1_5]) (t := 45) ?hr ?_; (case hd => rfl); (case hg => rfl); (case hr => first | (go_simp; done) | (go_simp; rfl)); intro gb152 hg w20 hbox hb; have n0_ := zab.mk (zas (g := gb151) (o := .cells #[.slice A0_0 l0_0.length c0_0] 24 (0, 0)) (by (with_reducible repeat (first | refine zal ?_ _ | refine zam ?_ | refine zaj ?_ _)); exact BK151.out) hb); have n1_ := zab.mk (zak (by repeat (first | (with_reducible first | exact HB.out | apply zac | apply zaa | apply zad | refine zai ?_ GE151.out) | exact HB.out)) hb); have n2_ := zab.mk (hbox); have n3_ := zab.mk ((by rw [hg]; exact (zan (by repeat (first | (with_reducible first | exact HB.out | apply zac | apply zaa | apply zad | refine zai ?_ GE151.out) | exact HB.out))) : w.heap.size ≤ gb152)); have n4_ := zab.mk ((by rw [hg]; exact (zan (by repeat (first | (with_reducible first | exact HB.out | apply zac | apply zaa | apply zad | refine zai ?_ GE151.out) | exact HB.out))) : w.heap.size ≤ gb152)); have n5_ := zab.mk ((by rw [hg]; exact Nat.ne_of_lt (zaL (g := gb151) (o := .cells #[.slice A0_0 l0_0.length c0_0] 24 (0, 0)) (by (with_reducible repeat (first | refine zal ?_ _ | refine zam ?_ | refine zaj ?_ _)); exact BK151.out)) : gb151 ≠ gb152)); have n6_ := zab.mk ((by rw [hg]; exact Nat.ne_of_gt (zaL (g := gb151) (o := .cells #[.slice A0_0 l0_0.length c0_0] 24 (0, 0)) (by (with_reducible repeat (first | refine zal ?_ _ | refine zam ?_ | refine zaj ?_ _)); exact BK151.out)) : gb152 ≠ gb151)); clear BK151; clear HB; have BK151 := n0_; have HB := n1_; have BK152 := n2_; have GW152 := n3_; have GE152 := n4_; have NB151_152 := n5_; have NB152_151 := n6_; clear n0_ n1_ n2_ n3_ n4_ n5_ n6_; clear hb hbox hg; have hnb21 := NB152_151.out; have hnc21 := NB151_152.out; have hcz22_0 : w20.cell? ⟨gb152, 0, none⟩ = some (.int .i64 a1_0) := (zah BK152.out 0).trans rfl; have hcz22_1 : w20.cell? ⟨gb152, 1, none⟩ = some (.slice A1_1 l1_1.length c1_1) := (zah BK152.out 1).trans rfl; have hcz22_2 : w20.cell? ⟨gb152, 2, none⟩ = some (.slice A1_2 l1_2.length c1_2) := (zah BK152.out 2).trans rfl; have hcz22_3 : w20.cell? ⟨gb152, 3, none⟩ = some (.string a1_3) := (zah BK152.out 3).trans rfl; have hcz22_4 : w20.cell? ⟨gb152, 4, none⟩ = some (.int .i64 a1_4) := (zah BK152.out 4).trans rfl; have hcz22_5 : w20.cell? ⟨gb152, 5, none⟩ = some (.int .i64 a1_5) := (zah BK152.out 5).trans rfl; have hfz22_0 := zae BK152.out 0; have hfz22_1 := zae BK152.out 1; have hfz22_2 := zae BK152.out 2; have hfz22_3 := zae BK152.out 3; have hfz22_4 := zae BK152.out 4; have hfz22_5 := zae BK152.out 5))
   go_ret
   exact ⟨by first | rfl | (simp [zar, zaq] <;> rfl) | (simp [*, zar, zaq] <;> rfl), by repeat (first | (with_reducible first | exact HB.out | apply zac | apply zaa | apply zad | refine zai ?_ GE151.out | refine zai ?_ GE152.out) | exact HB.out)⟩
 ·rw [if_neg c3] at H
  have c3b0 : (a1_0 == 0) = false := beq_eq_false_iff_ne.mpr c3
  have c3b1 : (a1_0 != 0) = true := bne_iff_ne.mpr c3
  by_cases c23 : a1_0 = 1
  ·rw [if_pos c23] at H
   have c23b0 : (a1_0 == 1) = true := beq_iff_eq.mpr c23
   have c23b1 : (a1_0 != 1) = false := bne_eq_false_iff_eq.mpr c23
   clear c23
   by_cases c24 : (l1_1.length : Int) ≤ 16384
   ·rw [if_pos c24] at H
    have c24b0 : decide ((l1_1.length : Int) ≤ 16384) = true := decide_eq_true c24
    have c24b1 : decide (l1_1.length ≤ 16384) = true := decide_eq_true (by omega)
    clear c24
    by_cases c25 : (l1_2.length : Int) = 0
    ·rw [if_pos c25] at H
     have c25b0 : ((l1_2.length : Int) == 0) = true := beq_iff_eq.mpr c25
     have c25b1 : ((l1_2.length : Int) != 0) = false := bne_eq_false_iff_eq.mpr c25
     clear c25
     by_cases c26 : a1_3.toList = ([] : List UInt8)
     ·rw [if_pos c26] at H
      have c26b0 : (a1_3.toList == ([] : List UInt8)) = true := beq_iff_eq.mpr c26
      have c26b1 : (a1_3.toList != ([] : List UInt8)) = false := bne_eq_false_iff_eq.mpr c26
      clear c26
      replace H := Option.bind_eq_some_iff.mp H
      obtain ⟨t153, A270, H⟩ := H
      replace H : (some t153) = some r := H
      have A27 := zab.mk A270
      clear A270
      obtain rfl := Option.some.inj H
      go_enter Try.func59, Try.ntmps59
      go_wp2_with (first | ((with_reducible refine zay (N := 2) rfl ?_); (try (refine zaN (by rfl) ?_; dsimp only)); refine zax ?hg (N := 2) ?hd (cs := #[.slice A0_0 l0_0.length c0_0]) (t := 24) ?hr ?_; (case hd => rfl); (case hg => rfl); (case hr => first | (go_simp; done) | (go_simp; rfl)); intro gb151 hg w28 hbox hb; have n0_ := zab.mk (zak (by repeat (first | (with_reducible first | exact HB.out | apply zac | apply zaa | apply zad) | exact HB.out)) hb); have n1_ := zab.mk (hbox); have n2_ := zab.mk ((by rw [hg]; exact (zan (by repeat (first | (with_reducible first | exact HB.out | apply zac | apply zaa | apply zad) | exact HB.out))) : w.heap.size ≤ gb151)); have n3_ := zab.mk ((by rw [hg]; exact (zan (by repeat (first | (with_reducible first | exact HB.out | apply zac | apply zaa | apply zad) | exact HB.out))) : w.heap.size ≤ gb151)); clear HB; have HB := n0_; have BK151 := n1_; have GW151 := n2_; have GE151 := n3_; clear n0_ n1_ n2_ n3_; clear hb hbox hg) | ((with_reducible refine zay (N := 3) rfl ?_); (try (refine zaN (by rfl) ?_; dsimp only)); refine zax ?hg (N := 3) ?hd (cs := #[.int .i64 a1_0, .slice A1_1 l1_1.length c1_1, .slice A1_2 l1_2.length c1_2, .string a1_3, .int .i64 a1_4, .int .i64 a1_5]) (t := 45) ?hr ?_; (case hd => rfl); (case hg => rfl); (case hr => first | (go_simp; done) | (go_simp; rfl)); intro gb152 hg w29 hbox hb; have n0_ := zab.mk (zas (g := gb151) (o := .cells #[.slice A0_0 l0_0.length c0_0] 24 (0, 0)) (by (with_reducible repeat (first | refine zal ?_ _ | refine zam ?_ | refine zaj ?_ _)); exact BK151.out) hb); have n1_ := zab.mk (zak (by repeat (first | (with_reducible first | exact HB.out | apply zac | apply zaa | apply zad | refine zai ?_ GE151.out) | exact HB.out)) hb); have n2_ := zab.mk (hbox); have n3_ := zab.mk ((by rw [hg]; exact (zan (by repeat (first | (with_reducible first | exact HB.out | apply zac | apply zaa | apply zad | refine zai ?_ GE151.out) | exact HB.out))) : w.heap.size ≤ gb152)); have n4_ := zab.mk ((by rw [hg]; exact (zan (by repeat (first | (with_reducible first | exact HB.out | apply zac | apply zaa | apply zad | refine zai ?_ GE151.out) | exact HB.out))) : w.heap.size ≤ gb152)); have n5_ := zab.mk ((by rw [hg]; exact Nat.ne_of_lt (zaL (g := gb151) (o := .cells #[.slice A0_0 l0_0.length c0_0] 24 (0, 0)) (by (with_reducible repeat (first | refine zal ?_ _ | refine zam ?_ | refine zaj ?_ _)); exact BK151.out)) : gb151 ≠ gb152)); have n6_ := zab.mk ((by rw [hg]; exact Nat.ne_of_gt (zaL (g := gb151) (o := .cells #[.slice A0_0 l0_0.length c0_0] 24 (0, 0)) (by (with_reducible repeat (first | refine zal ?_ _ | refine zam ?_ | refine zaj ?_ _)); exact BK151.out)) : gb152 ≠ gb151)); clear BK151; clear HB; have BK151 := n0_; have HB := n1_; have BK152 := n2_; have GW152 := n3_; have GE152 := n4_; have NB151_152 := n5_; have NB152_151 := n6_; clear n0_ n1_ n2_ n3_ n4_ n5_ n6_; clear hb hbox hg; have hnb30 := NB152_151.out; have hnc30 := NB151_152.out; have hcz31_0 : w29.cell? ⟨gb152, 0, none⟩ = some (.int .i64 a1_0) := (zah BK152.out 0).trans rfl; have hcz31_1 : w29.cell? ⟨gb152, 1, none⟩ = some (.slice A1_1 l1_1.length c1_1) := (zah BK152.out 1).trans rfl; have hcz31_2 : w29.cell? ⟨gb152, 2, none⟩ = some (.slice A1_2 l1_2.length c1_2) := (zah BK152.out 2).trans rfl; have hcz31_3 : w29.cell? ⟨gb152, 3, none⟩ = some (.string a1_3) := (zah BK152.out 3).trans rfl; have hcz31_4 : w29.cell? ⟨gb152, 4, none⟩ = some (.int .i64 a1_4) := (zah BK152.out 4).trans rfl; have hcz31_5 : w29.cell? ⟨gb152, 5, none⟩ = some (.int .i64 a1_5) := (zah BK152.out 5).trans rfl; have hfz31_0 := zae BK152.out 0; have hfz31_1 := zae BK152.out 1; have hfz31_2 := zae BK152.out 2; have hfz31_3 := zae BK152.out 3; have hfz31_4 := zae BK152.out 4; have hfz31_5 := zae BK152.out 5) | (go_at_call 45; (with_reducible refine (za2.calls a1_5 t153 _ A27.out).mono ?_); rintro e w' ⟨rfl, ⟨nd, rfl⟩⟩))
      go_ret
      exact ⟨by first | rfl | (simp [zar, zaq] <;> rfl) | (simp [*, zar, zaq] <;> rfl), by repeat (first | (with_reducible first | exact HB.out | apply zac | apply zaa | apply zad | refine zai ?_ GE151.out | refine zai ?_ GE152.out) | exact HB.out)⟩
     ·rw [if_neg c26] at H
      have c26b0 : (a1_3.toList == ([] : List UInt8)) = false := beq_eq_false_iff_ne.mpr c26
      have c26b1 : (a1_3.toList != ([] : List UInt8)) = true := bne_iff_ne.mpr c26
      obtain rfl := Option.some.inj H
      go_enter Try.func59, Try.ntmps59
      go_wp2_with (first | ((with_reducible refine zay (N := 2) rfl ?_); (try (refine zaN (by rfl) ?_; dsimp only)); refine zax ?hg (N := 2) ?hd (cs := #[.slice A0_0 l0_0.length c0_0]) (t := 24) ?hr ?_; (case hd => rfl); (case hg => rfl); (case hr => first | (go_simp; done) | (go_simp; rfl)); intro gb151 hg w32 hbox hb; have n0_ := zab.mk (zak (by repeat (first | (with_reducible first | exact HB.out | apply zac | apply zaa | apply zad) | exact HB.out)) hb); have n1_ := zab.mk (hbox); have n2_ := zab.mk ((by rw [hg]; exact (zan (by repeat (first | (with_reducible first | exact HB.out | apply zac | apply zaa | apply zad) | exact HB.out))) : w.heap.size ≤ gb151)); have n3_ := zab.mk ((by rw [hg]; exact (zan (by repeat (first | (with_reducible first | exact HB.out | apply zac | apply zaa | apply zad) | exact HB.out))) : w.heap.size ≤ gb151)); clear HB; have HB := n0_; have BK151 := n1_; have GW151 := n2_; have GE151 := n3_; clear n0_ n1_ n2_ n3_; clear hb hbox hg) | ((with_reducible refine zay (N := 3) rfl ?_); (try (refine zaN (by rfl) ?_; dsimp only)); refine zax ?hg (N := 3) ?hd (cs := #[.int .i64 a1_0, .slice A1_1 l1_1.length c1_1, .slice A1_2 l1_2.length c1_2, .string a1_3, .int .i64 a1_4, .int .i64 a1_5]) (t := 45) ?hr ?_; (case hd => rfl); (case hg => rfl); (case hr => first | (go_simp; done) | (go_simp; rfl)); intro gb152 hg w33 hbox hb; have n0_ := zab.mk (zas (g := gb151) (o := .cells #[.slice A0_0 l0_0.length c0_0] 24 (0, 0)) (by (with_reducible repeat (first | refine zal ?_ _ | refine zam ?_ | refine zaj ?_ _)); exact BK151.out) hb); have n1_ := zab.mk (zak (by repeat (first | (with_reducible first | exact HB.out | apply zac | apply zaa | apply zad | refine zai ?_ GE151.out) | exact HB.out)) hb); have n2_ := zab.mk (hbox); have n3_ := zab.mk ((by rw [hg]; exact (zan (by repeat (first | (with_reducible first | exact HB.out | apply zac | apply zaa | apply zad | refine zai ?_ GE151.out) | exact HB.out))) : w.heap.size ≤ gb152)); have n4_ := zab.mk ((by rw [hg]; exact (zan (by repeat (first | (with_reducible first | exact HB.out | apply zac | apply zaa | apply zad | refine zai ?_ GE151.out) | exact HB.out))) : w.heap.size ≤ gb152)); have n5_ := zab.mk ((by rw [hg]; exact Nat.ne_of_lt (zaL (g := gb151) (o := .cells #[.slice A0_0 l0_0.length c0_0] 24 (0, 0)) (by (with_reducible repeat (first | refine zal ?_ _ | refine zam ?_ | refine zaj ?_ _)); exact BK151.out)) : gb151 ≠ gb152)); have n6_ := zab.mk ((by rw [hg]; exact Nat.ne_of_gt (zaL (g := gb151) (o := .cells #[.slice A0_0 l0_0.length c0_0] 24 (0, 0)) (by (with_reducible repeat (first | refine zal ?_ _ | refine zam ?_ | refine zaj ?_ _)); exact BK151.out)) : gb152 ≠ gb151)); clear BK151; clear HB; have BK151 := n0_; have HB := n1_; have BK152 := n2_; have GW152 := n3_; have GE152 := n4_; have NB151_152 := n5_; have NB152_151 := n6_; clear n0_ n1_ n2_ n3_ n4_ n5_ n6_; clear hb hbox hg; have hnb34 := NB152_151.out; have hnc34 := NB151_152.out; have hcz35_0 : w33.cell? ⟨gb152, 0, none⟩ = some (.int .i64 a1_0) := (zah BK152.out 0).trans rfl; have hcz35_1 : w33.cell? ⟨gb152, 1, none⟩ = some (.slice A1_1 l1_1.length c1_1) := (zah BK152.out 1).trans rfl; have hcz35_2 : w33.cell? ⟨gb152, 2, none⟩ = some (.slice A1_2 l1_2.length c1_2) := (zah BK152.out 2).trans rfl; have hcz35_3 : w33.cell? ⟨gb152, 3, none⟩ = some (.string a1_3) := (zah BK152.out 3).trans rfl; have hcz35_4 : w33.cell? ⟨gb152, 4, none⟩ = some (.int .i64 a1_4) := (zah BK152.out 4).trans rfl; have hcz35_5 : w33.cell? ⟨gb152, 5, none⟩ = some (.int .i64 a1_5) := (zah BK152.out 5).trans rfl; have hfz35_0 := zae BK152.out 0; have hfz35_1 := zae BK152.out 1; have hfz35_2 := zae BK152.out 2; have hfz35_3 := zae BK152.out 3; have hfz35_4 := zae BK152.out 4; have hfz35_5 := zae BK152.out 5))
      go_ret
      exact ⟨by first | rfl | (simp [zar, zaq] <;> rfl) | (simp [*, zar, zaq] <;> rfl), by repeat (first | (with_reducible first | exact HB.out | apply zac | apply zaa | apply zad | refine zai ?_ GE151.out | refine zai ?_ GE152.out) | exact HB.out)⟩
    ·rw [if_neg c25] at H
     have c25b0 : ((l1_2.length : Int) == 0) = false := beq_eq_false_iff_ne.mpr c25
     have c25b1 : ((l1_2.length : Int) != 0) = true := bne_iff_ne.mpr c25
     have c25b2 : ¬ (l1_2 = []) := fun h_ => c25 (by rw [h_]; rfl)
     obtain rfl := Option.some.inj H
     go_enter Try.func59, Try.ntmps59
     go_wp2_with (first | ((with_reducible refine zay (N := 2) rfl ?_); (try (refine zaN (by rfl) ?_; dsimp only)); refine zax ?hg (N := 2) ?hd (cs := #[.slice A0_0 l0_0.length c0_0]) (t := 24) ?hr ?_; (case hd => rfl); (case hg => rfl); (case hr => first | (go_simp; done) | (go_simp; rfl)); intro gb151 hg w36 hbox hb; have n0_ := zab.mk (zak (by repeat (first | (with_reducible first | exact HB.out | apply zac | apply zaa | apply zad) | exact HB.out)) hb); have n1_ := zab.mk (hbox); have n2_ := zab.mk ((by rw [hg]; exact (zan (by repeat (first | (with_reducible first | exact HB.out | apply zac | apply zaa | apply zad) | exact HB.out))) : w.heap.size ≤ gb151)); have n3_ := zab.mk ((by rw [hg]; exact (zan (by repeat (first | (with_reducible first | exact HB.out | apply zac | apply zaa | apply zad) | exact HB.out))) : w.heap.size ≤ gb151)); clear HB; have HB := n0_; have BK151 := n1_; have GW151 := n2_; have GE151 := n3_; clear n0_ n1_ n2_ n3_; clear hb hbox hg) | ((with_reducible refine zay (N := 3) rfl ?_); (try (refine zaN (by rfl) ?_; dsimp only)); refine zax ?hg (N := 3) ?hd (cs := #[.int .i64 a1_0, .slice A1_1 l1_1.length c1_1, .slice A1_2 l1_2.length c1_2, .string a1_3, .int .i64 a1_4, .int .i64 a1_5]) (t := 45) ?hr ?_; (case hd => rfl); (case hg => rfl); (case hr => first | (go_simp; done) | (go_simp; rfl)); intro gb152 hg w37 hbox hb; have n0_ := zab.mk (zas (g := gb151) (o := .cells #[.slice A0_0 l0_0.length c0_0] 24 (0, 0)) (by (with_reducible repeat (first | refine zal ?_ _ | refine zam ?_ | refine zaj ?_ _)); exact BK151.out) hb); have n1_ := zab.mk (zak (by repeat (first | (with_reducible first | exact HB.out | apply zac | apply zaa | apply zad | refine zai ?_ GE151.out) | exact HB.out)) hb); have n2_ := zab.mk (hbox); have n3_ := zab.mk ((by rw [hg]; exact (zan (by repeat (first | (with_reducible first | exact HB.out | apply zac | apply zaa | apply zad | refine zai ?_ GE151.out) | exact HB.out))) : w.heap.size ≤ gb152)); have n4_ := zab.mk ((by rw [hg]; exact (zan (by repeat (first | (with_reducible first | exact HB.out | apply zac | apply zaa | apply zad | refine zai ?_ GE151.out) | exact HB.out))) : w.heap.size ≤ gb152)); have n5_ := zab.mk ((by rw [hg]; exact Nat.ne_of_lt (zaL (g := gb151) (o := .cells #[.slice A0_0 l0_0.length c0_0] 24 (0, 0)) (by (with_reducible repeat (first | refine zal ?_ _ | refine zam ?_ | refine zaj ?_ _)); exact BK151.out)) : gb151 ≠ gb152)); have n6_ := zab.mk ((by rw [hg]; exact Nat.ne_of_gt (zaL (g := gb151) (o := .cells #[.slice A0_0 l0_0.length c0_0] 24 (0, 0)) (by (with_reducible repeat (first | refine zal ?_ _ | refine zam ?_ | refine zaj ?_ _)); exact BK151.out)) : gb152 ≠ gb151)); clear BK151; clear HB; have BK151 := n0_; have HB := n1_; have BK152 := n2_; have GW152 := n3_; have GE152 := n4_; have NB151_152 := n5_; have NB152_151 := n6_; clear n0_ n1_ n2_ n3_ n4_ n5_ n6_; clear hb hbox hg; have hnb38 := NB152_151.out; have hnc38 := NB151_152.out; have hcz39_0 : w37.cell? ⟨gb152, 0, none⟩ = some (.int .i64 a1_0) := (zah BK152.out 0).trans rfl; have hcz39_1 : w37.cell? ⟨gb152, 1, none⟩ = some (.slice A1_1 l1_1.length c1_1) := (zah BK152.out 1).trans rfl; have hcz39_2 : w37.cell? ⟨gb152, 2, none⟩ = some (.slice A1_2 l1_2.length c1_2) := (zah BK152.out 2).trans rfl; have hcz39_3 : w37.cell? ⟨gb152, 3, none⟩ = some (.string a1_3) := (zah BK152.out 3).trans rfl; have hcz39_4 : w37.cell? ⟨gb152, 4, none⟩ = some (.int .i64 a1_4) := (zah BK152.out 4).trans rfl; have hcz39_5 : w37.cell? ⟨gb152, 5, none⟩ = some (.int .i64 a1_5) := (zah BK152.out 5).trans rfl; have hfz39_0 := zae BK152.out 0; have hfz39_1 := zae BK152.out 1; have hfz39_2 := zae BK152.out 2; have hfz39_3 := zae BK152.out 3; have hfz39_4 := zae BK152.out 4; have hfz39_5 := zae BK152.out 5))
     go_ret
     exact ⟨by first | rfl | (simp [zar, zaq] <;> rfl) | (simp [*, zar, zaq] <;> rfl), by repeat (first | (with_reducible first | exact HB.out | apply zac | apply zaa | apply zad | refine zai ?_ GE151.out | refine zai ?_ GE152.out) | exact HB.out)⟩
   ·rw [if_neg c24] at H
    have c24b0 : decide ((l1_1.length : Int) ≤ 16384) = false := decide_eq_false c24
    have c24b1 : decide (l1_1.length ≤ 16384) = false := decide_eq_false (by omega)
    clear c24
    obtain rfl := Option.some.inj H
    go_enter Try.func59, Try.ntmps59
    go_wp2_with (first | ((with_reducible refine zay (N := 2) rfl ?_); (try (refine zaN (by rfl) ?_; dsimp only)); refine zax ?hg (N := 2) ?hd (cs := #[.slice A0_0 l0_0.length c0_0]) (t := 24) ?hr ?_; (case hd => rfl); (case hg => rfl); (case hr => first | (go_simp; done) | (go_simp; rfl)); intro gb151 hg w40 hbox hb; have n0_ := zab.mk (zak (by repeat (first | (with_reducible first | exact HB.out | apply zac | apply zaa | apply zad) | exact HB.out)) hb); have n1_ := zab.mk (hbox); have n2_ := zab.mk ((by rw [hg]; exact (zan (by repeat (first | (with_reducible first | exact HB.out | apply zac | apply zaa | apply zad) | exact HB.out))) : w.heap.size ≤ gb151)); have n3_ := zab.mk ((by rw [hg]; exact (zan (by repeat (first | (with_reducible first | exact HB.out | apply zac | apply zaa | apply zad) | exact HB.out))) : w.heap.size ≤ gb151)); clear HB; have HB := n0_; have BK151 := n1_; have GW151 := n2_; have GE151 := n3_; clear n0_ n1_ n2_ n3_; clear hb hbox hg) | ((with_reducible refine zay (N := 3) rfl ?_); (try (refine zaN (by rfl) ?_; dsimp only)); refine zax ?hg (N := 3) ?hd (cs := #[.int .i64 a1_0, .slice A1_1 l1_1.length c1_1, .slice A1_2 l1_2.length c1_2, .string a1_3, .int .i64 a1_4, .int .i64 a1_5]) (t := 45) ?hr ?_; (case hd => rfl); (case hg => rfl); (case hr => first | (go_simp; done) | (go_simp; rfl)); intro gb152 hg w41 hbox hb; have n0_ := zab.mk (zas (g := gb151) (o := .cells #[.slice A0_0 l0_0.length c0_0] 24 (0, 0)) (by (with_reducible repeat (first | refine zal ?_ _ | refine zam ?_ | refine zaj ?_ _)); exact BK151.out) hb); have n1_ := zab.mk (zak (by repeat (first | (with_reducible first | exact HB.out | apply zac | apply zaa | apply zad | refine zai ?_ GE151.out) | exact HB.out)) hb); have n2_ := zab.mk (hbox); have n3_ := zab.mk ((by rw [hg]; exact (zan (by repeat (first | (with_reducible first | exact HB.out | apply zac | apply zaa | apply zad | refine zai ?_ GE151.out) | exact HB.out))) : w.heap.size ≤ gb152)); have n4_ := zab.mk ((by rw [hg]; exact (zan (by repeat (first | (with_reducible first | exact HB.out | apply zac | apply zaa | apply zad | refine zai ?_ GE151.out) | exact HB.out))) : w.heap.size ≤ gb152)); have n5_ := zab.mk ((by rw [hg]; exact Nat.ne_of_lt (zaL (g := gb151) (o := .cells #[.slice A0_0 l0_0.length c0_0] 24 (0, 0)) (by (with_reducible repeat (first | refine zal ?_ _ | refine zam ?_ | refine zaj ?_ _)); exact BK151.out)) : gb151 ≠ gb152)); have n6_ := zab.mk ((by rw [hg]; exact Nat.ne_of_gt (zaL (g := gb151) (o := .cells #[.slice A0_0 l0_0.length c0_0] 24 (0, 0)) (by (with_reducible repeat (first | refine zal ?_ _ | refine zam ?_ | refine zaj ?_ _)); exact BK151.out)) : gb152 ≠ gb151)); clear BK151; clear HB; have BK151 := n0_; have HB := n1_; have BK152 := n2_; have GW152 := n3_; have GE152 := n4_; have NB151_152 := n5_; have NB152_151 := n6_; clear n0_ n1_ n2_ n3_ n4_ n5_ n6_; clear hb hbox hg; have hnb42 := NB152_151.out; have hnc42 := NB151_152.out; have hcz43_0 : w41.cell? ⟨gb152, 0, none⟩ = some (.int .i64 a1_0) := (zah BK152.out 0).trans rfl; have hcz43_1 : w41.cell? ⟨gb152, 1, none⟩ = some (.slice A1_1 l1_1.length c1_1) := (zah BK152.out 1).trans rfl; have hcz43_2 : w41.cell? ⟨gb152, 2, none⟩ = some (.slice A1_2 l1_2.length c1_2) := (zah BK152.out 2).trans rfl; have hcz43_3 : w41.cell? ⟨gb152, 3, none⟩ = some (.string a1_3) := (zah BK152.out 3).trans rfl; have hcz43_4 : w41.cell? ⟨gb152, 4, none⟩ = some (.int .i64 a1_4) := (zah BK152.out 4).trans rfl; have hcz43_5 : w41.cell? ⟨gb152, 5, none⟩ = some (.int .i64 a1_5) := (zah BK152.out 5).trans rfl; have hfz43_0 := zae BK152.out 0; have hfz43_1 := zae BK152.out 1; have hfz43_2 := zae BK152.out 2; have hfz43_3 := zae BK152.out 3; have hfz43_4 := zae BK152.out 4; have hfz43_5 := zae BK152.out 5))
    go_ret
    exact ⟨by first | rfl | (simp [zar, zaq] <;> rfl) | (simp [*, zar, zaq] <;> rfl), by repeat (first | (with_reducible first | exact HB.out | apply zac | apply zaa | apply zad | refine zai ?_ GE151.out | refine zai ?_ GE152.out) | exact HB.out)⟩
  ·rw [if_neg c23] at H
   have c23b0 : (a1_0 == 1) = false := beq_eq_false_iff_ne.mpr c23
   have c23b1 : (a1_0 != 1) = true := bne_iff_ne.mpr c23
   by_cases c44 : a1_0 = 2
   ·rw [if_pos c44] at H
    have c44b0 : (a1_0 == 2) = true := beq_iff_eq.mpr c44
    have c44b1 : (a1_0 != 2) = false := bne_eq_false_iff_eq.mpr c44
    clear c44
    by_cases c45 : (l1_1.length : Int) = 0
    ·rw [if_pos c45] at H
     have c45b0 : ((l1_1.length : Int) == 0) = true := beq_iff_eq.mpr c45
     have c45b1 : ((l1_1.length : Int) != 0) = false := bne_eq_false_iff_eq.mpr c45
     clear c45
     by_cases c46 : a1_3.toList = ([] : List UInt8)
     ·rw [if_pos c46] at H
      have c46b0 : (a1_3.toList == ([] : List UInt8)) = true := beq_iff_eq.mpr c46
      have c46b1 : (a1_3.toList != ([] : List UInt8)) = false := bne_eq_false_iff_eq.mpr c46
      clear c46
      replace H := Option.bind_eq_some_iff.mp H
      obtain ⟨t154, A470, H⟩ := H
      replace H : (if t154 = true then ((zcg.f l0_0 l1_2).bind fun t155 => (some t155)) else (some false)) = some r := H
      have A47 := zab.mk A470
      clear A470
      by_cases c48 : t154 = true
      ·subst c48
       have H1 : ((zcg.f l0_0 l1_2).bind fun t155 => (some t155)) = some r := by rw [if_pos rfl] at H; exact H
       clear H
       have H := H1
       clear H1
       replace H := Option.bind_eq_some_iff.mp H
       obtain ⟨t155, A490, H⟩ := H
       replace H : (some t155) = some r := H
       have A49 := zab.mk A490
       clear A490
       obtain rfl := Option.some.inj H
       go_enter Try.func59, Try.ntmps59
       go_wp2_with (first | ((with_reducible refine zay (N := 2) rfl ?_); (try (refine zaN (by rfl) ?_; dsimp only)); refine zax ?hg (N := 2) ?hd (cs := #[.slice A0_0 l0_0.length c0_0]) (t := 24) ?hr ?_; (case hd => rfl); (case hg => rfl); (case hr => first | (go_simp; done) | (go_simp; rfl)); intro gb151 hg w50 hbox hb; have n0_ := zab.mk (zak (by repeat (first | (with_reducible first | exact HB.out | apply zac | apply zaa | apply zad) | exact HB.out)) hb); have n1_ := zab.mk (hbox); have n2_ := zab.mk ((by rw [hg]; exact (zan (by repeat (first | (with_reducible first | exact HB.out | apply zac | apply zaa | apply zad) | exact HB.out))) : w.heap.size ≤ gb151)); have n3_ := zab.mk ((by rw [hg]; exact (zan (by repeat (first | (with_reducible first | exact HB.out | apply zac | apply zaa | apply zad) | exact HB.out))) : w.heap.size ≤ gb151)); clear HB; have HB := n0_; have BK151 := n1_; have GW151 := n2_; have GE151 := n3_; clear n0_ n1_ n2_ n3_; clear hb hbox hg) | ((with_reducible refine zay (N := 3) rfl ?_); (try (refine zaN (by rfl) ?_; dsimp only)); refine zax ?hg (N := 3) ?hd (cs := #[.int .i64 a1_0, .slice A1_1 l1_1.length c1_1, .slice A1_2 l1_2.length c1_2, .string a1_3, .int .i64 a1_4, .int .i64 a1_5]) (t := 45) ?hr ?_; (case hd => rfl); (case hg => rfl); (case hr => first | (go_simp; done) | (go_simp; rfl)); intro gb152 hg w51 hbox hb; have n0_ := zab.mk (zas (g := gb151) (o := .cells #[.slice A0_0 l0_0.length c0_0] 24 (0, 0)) (by (with_reducible repeat (first | refine zal ?_ _ | refine zam ?_ | refine zaj ?_ _)); exact BK151.out) hb); have n1_ := zab.mk (zak (by repeat (first | (with_reducible first | exact HB.out | apply zac | apply zaa | apply zad | refine zai ?_ GE151.out) | exact HB.out)) hb); have n2_ := zab.mk (hbox); have n3_ := zab.mk ((by rw [hg]; exact (zan (by repeat (first | (with_reducible first | exact HB.out | apply zac | apply zaa | apply zad | refine zai ?_ GE151.out) | exact HB.out))) : w.heap.size ≤ gb152)); have n4_ := zab.mk ((by rw [hg]; exact (zan (by repeat (first | (with_reducible first | exact HB.out | apply zac | apply zaa | apply zad | refine zai ?_ GE151.out) | exact HB.out))) : w.heap.size ≤ gb152)); have n5_ := zab.mk ((by rw [hg]; exact Nat.ne_of_lt (zaL (g := gb151) (o := .cells #[.slice A0_0 l0_0.length c0_0] 24 (0, 0)) (by (with_reducible repeat (first | refine zal ?_ _ | refine zam ?_ | refine zaj ?_ _)); exact BK151.out)) : gb151 ≠ gb152)); have n6_ := zab.mk ((by rw [hg]; exact Nat.ne_of_gt (zaL (g := gb151) (o := .cells #[.slice A0_0 l0_0.length c0_0] 24 (0, 0)) (by (with_reducible repeat (first | refine zal ?_ _ | refine zam ?_ | refine zaj ?_ _)); exact BK151.out)) : gb152 ≠ gb151)); clear BK151; clear HB; have BK151 := n0_; have HB := n1_; have BK152 := n2_; have GW152 := n3_; have GE152 := n4_; have NB151_152 := n5_; have NB152_151 := n6_; clear n0_ n1_ n2_ n3_ n4_ n5_ n6_; clear hb hbox hg; have hnb52 := NB152_151.out; have hnc52 := NB151_152.out; have hcz53_0 : w51.cell? ⟨gb152, 0, none⟩ = some (.int .i64 a1_0) := (zah BK152.out 0).trans rfl; have hcz53_1 : w51.cell? ⟨gb152, 1, none⟩ = some (.slice A1_1 l1_1.length c1_1) := (zah BK152.out 1).trans rfl; have hcz53_2 : w51.cell? ⟨gb152, 2, none⟩ = some (.slice A1_2 l1_2.length c1_2) := (zah BK152.out 2).trans rfl; have hcz53_3 : w51.cell? ⟨gb152, 3, none⟩ = some (.string a1_3) := (zah BK152.out 3).trans rfl; have hcz53_4 : w51.cell? ⟨gb152, 4, none⟩ = some (.int .i64 a1_4) := (zah BK152.out 4).trans rfl; have hcz53_5 : w51.cell? ⟨gb152, 5, none⟩ = some (.int .i64 a1_5) := (zah BK152.out 5).trans rfl; have hfz53_0 := zae BK152.out 0; have hfz53_1 := zae BK152.out 1; have hfz53_2 := zae BK152.out 2; have hfz53_3 := zae BK152.out 3; have hfz53_4 := zae BK152.out 4; have hfz53_5 := zae BK152.out 5) | (go_at_call 45; (with_reducible refine (za2.calls a1_5 true _ A47.out).mono ?_); rintro e w' ⟨rfl, ⟨nd, rfl⟩⟩; have hcz54_0 : w51.cell? ⟨gb151, 0, none⟩ = some (.slice A0_0 l0_0.length c0_0) := (zah BK151.out 0).trans rfl; have hfz54_0 := zae BK151.out 0) | (go_at_call 72; (with_reducible refine (zcg.calls _ _ l0_0 _ _ l1_2 t155 _ ?side1 ?side2 ?side3 ?side4 A49.out).mono ?_); (case side1 => repeat (first | exact (Kd.C_below HR0_0.out (by repeat (first | (with_reducible first | exact HB.out | apply zac | apply zaa | apply zad | refine zai ?_ GE151.out | refine zai ?_ GE152.out) | exact HB.out))) | (with_reducible refine Kd.C_alloc ?_ _) | (with_reducible refine Kd.C_drewN ?_ _) | (with_reducible refine Kd.C_drew ?_))); (case side2 => exact HC0_0.out); (case side3 => repeat (first | exact (Kd.C_below HR1_2.out (by repeat (first | (with_reducible first | exact HB.out | apply zac | apply zaa | apply zad | refine zai ?_ GE151.out | refine zai ?_ GE152.out) | exact HB.out))) | (with_reducible refine Kd.C_alloc ?_ _) | (with_reducible refine Kd.C_drewN ?_ _) | (with_reducible refine Kd.C_drew ?_))); (case side4 => exact HC1_2.out); rintro e w55 ⟨rfl, hb⟩; have n0_ := zab.mk (zas (g := gb151) (o := .cells #[.slice A0_0 l0_0.length c0_0] 24 (0, 0)) (by (with_reducible repeat (first | refine zal ?_ _ | refine zam ?_ | refine zaj ?_ _)); exact BK151.out) hb); have n1_ := zab.mk (zas (g := gb152) (o := .cells #[.int .i64 a1_0, .slice A1_1 l1_1.length c1_1, .slice A1_2 l1_2.length c1_2, .string a1_3, .int .i64 a1_4, .int .i64 a1_5] 45 (0, 0)) (by (with_reducible repeat (first | refine zal ?_ _ | refine zam ?_ | refine zaj ?_ _)); exact BK152.out) hb); have n2_ := zab.mk (zak (by repeat (first | (with_reducible first | exact HB.out | apply zac | apply zaa | apply zad | refine zai ?_ GE151.out | refine zai ?_ GE152.out) | exact HB.out)) hb); clear BK151; clear BK152; clear HB; have BK151 := n0_; have BK152 := n1_; have HB := n2_; clear n0_ n1_ n2_; (try clear hb); (try clear hb2); (try clear hk); (try clear hi)))
       go_ret
       exact ⟨by first | rfl | (simp [zar, zaq] <;> rfl) | (simp [*, zar, zaq] <;> rfl), by repeat (first | (with_reducible first | exact HB.out | apply zac | apply zaa | apply zad | refine zai ?_ GE151.out | refine zai ?_ GE152.out) | exact HB.out)⟩
      ·replace c48 := Bool.eq_false_iff.mpr c48
       subst c48
       have H1 : (some false) = some r := by rw [if_neg (show ¬ (false = true) by decide)] at H; exact H
       clear H
       have H := H1
       clear H1
       obtain rfl := Option.some.inj H
       go_enter Try.func59, Try.ntmps59
       go_wp2_with (first | ((with_reducible refine zay (N := 2) rfl ?_); (try (refine zaN (by rfl) ?_; dsimp only)); refine zax ?hg (N := 2) ?hd (cs := #[.slice A0_0 l0_0.length c0_0]) (t := 24) ?hr ?_; (case hd => rfl); (case hg => rfl); (case hr => first | (go_simp; done) | (go_simp; rfl)); intro gb151 hg w56 hbox hb; have n0_ := zab.mk (zak (by repeat (first | (with_reducible first | exact HB.out | apply zac | apply zaa | apply zad) | exact HB.out)) hb); have n1_ := zab.mk (hbox); have n2_ := zab.mk ((by rw [hg]; exact (zan (by repeat (first | (with_reducible first | exact HB.out | apply zac | apply zaa | apply zad) | exact HB.out))) : w.heap.size ≤ gb151)); have n3_ := zab.mk ((by rw [hg]; exact (zan (by repeat (first | (with_reducible first | exact HB.out | apply zac | apply zaa | apply zad) | exact HB.out))) : w.heap.size ≤ gb151)); clear HB; have HB := n0_; have BK151 := n1_; have GW151 := n2_; have GE151 := n3_; clear n0_ n1_ n2_ n3_; clear hb hbox hg) | ((with_reducible refine zay (N := 3) rfl ?_); (try (refine zaN (by rfl) ?_; dsimp only)); refine zax ?hg (N := 3) ?hd (cs := #[.int .i64 a1_0, .slice A1_1 l1_1.length c1_1, .slice A1_2 l1_2.length c1_2, .string a1_3, .int .i64 a1_4, .int .i64 a1_5]) (t := 45) ?hr ?_; (case hd => rfl); (case hg => rfl); (case hr => first | (go_simp; done) | (go_simp; rfl)); intro gb152 hg w57 hbox hb; have n0_ := zab.mk (zas (g := gb151) (o := .cells #[.slice A0_0 l0_0.length c0_0] 24 (0, 0)) (by (with_reducible repeat (first | refine zal ?_ _ | refine zam ?_ | refine zaj ?_ _)); exact BK151.out) hb); have n1_ := zab.mk (zak (by repeat (first | (with_reducible first | exact HB.out | apply zac | apply zaa | apply zad | refine zai ?_ GE151.out) | exact HB.out)) hb); have n2_ := zab.mk (hbox); have n3_ := zab.mk ((by rw [hg]; exact (zan (by repeat (first | (with_reducible first | exact HB.out | apply zac | apply zaa | apply zad | refine zai ?_ GE151.out) | exact HB.out))) : w.heap.size ≤ gb152)); have n4_ := zab.mk ((by rw [hg]; exact (zan (by repeat (first | (with_reducible first | exact HB.out | apply zac | apply zaa | apply zad | refine zai ?_ GE151.out) | exact HB.out))) : w.heap.size ≤ gb152)); have n5_ := zab.mk ((by rw [hg]; exact Nat.ne_of_lt (zaL (g := gb151) (o := .cells #[.slice A0_0 l0_0.length c0_0] 24 (0, 0)) (by (with_reducible repeat (first | refine zal ?_ _ | refine zam ?_ | refine zaj ?_ _)); exact BK151.out)) : gb151 ≠ gb152)); have n6_ := zab.mk ((by rw [hg]; exact Nat.ne_of_gt (zaL (g := gb151) (o := .cells #[.slice A0_0 l0_0.length c0_0] 24 (0, 0)) (by (with_reducible repeat (first | refine zal ?_ _ | refine zam ?_ | refine zaj ?_ _)); exact BK151.out)) : gb152 ≠ gb151)); clear BK151; clear HB; have BK151 := n0_; have HB := n1_; have BK152 := n2_; have GW152 := n3_; have GE152 := n4_; have NB151_152 := n5_; have NB152_151 := n6_; clear n0_ n1_ n2_ n3_ n4_ n5_ n6_; clear hb hbox hg; have hnb58 := NB152_151.out; have hnc58 := NB151_152.out; have hcz59_0 : w57.cell? ⟨gb152, 0, none⟩ = some (.int .i64 a1_0) := (zah BK152.out 0).trans rfl; have hcz59_1 : w57.cell? ⟨gb152, 1, none⟩ = some (.slice A1_1 l1_1.length c1_1) := (zah BK152.out 1).trans rfl; have hcz59_2 : w57.cell? ⟨gb152, 2, none⟩ = some (.slice A1_2 l1_2.length c1_2) := (zah BK152.out 2).trans rfl; have hcz59_3 : w57.cell? ⟨gb152, 3, none⟩ = some (.string a1_3) := (zah BK152.out 3).trans rfl; have hcz59_4 : w57.cell? ⟨gb152, 4, none⟩ = some (.int .i64 a1_4) := (zah BK152.out 4).trans rfl; have hcz59_5 : w57.cell? ⟨gb152, 5, none⟩ = some (.int .i64 a1_5) := (zah BK152.out 5).trans rfl; have hfz59_0 := zae BK152.out 0; have hfz59_1 := zae BK152.out 1; have hfz59_2 := zae BK152.out 2; have hfz59_3 := zae BK152.out 3; have hfz59_4 := zae BK152.out 4; have hfz59_5 := zae BK152.out 5) | (go_at_call 45; (with_reducible refine (za2.calls a1_5 false _ A47.out).mono ?_); rintro e w' ⟨rfl, ⟨nd, rfl⟩⟩))
       go_ret
       exact ⟨by first | rfl | (simp [zar, zaq] <;> rfl) | (simp [*, zar, zaq] <;> rfl), by repeat (first | (with_reducible first | exact HB.out | apply zac | apply zaa | apply zad | refine zai ?_ GE151.out | refine zai ?_ GE152.out) | exact HB.out)⟩
     ·rw [if_neg c46] at H
      have c46b0 : (a1_3.toList == ([] : List UInt8)) = false := beq_eq_false_iff_ne.mpr c46
      have c46b1 : (a1_3.toList != ([] : List UInt8)) = true := bne_iff_ne.mpr c46
      obtain rfl := Option.some.inj H
      go_enter Try.func59, Try.ntmps59
      go_wp2_with (first | ((with_reducible refine zay (N := 2) rfl ?_); (try (refine zaN (by rfl) ?_; dsimp only)); refine zax ?hg (N := 2) ?hd (cs := #[.slice A0_0 l0_0.length c0_0]) (t := 24) ?hr ?_; (case hd => rfl); (case hg => rfl); (case hr => first | (go_simp; done) | (go_simp; rfl)); intro gb151 hg w60 hbox hb; have n0_ := zab.mk (zak (by repeat (first | (with_reducible first | exact HB.out | apply zac | apply zaa | apply zad) | exact HB.out)) hb); have n1_ := zab.mk (hbox); have n2_ := zab.mk ((by rw [hg]; exact (zan (by repeat (first | (with_reducible first | exact HB.out | apply zac | apply zaa | apply zad) | exact HB.out))) : w.heap.size ≤ gb151)); have n3_ := zab.mk ((by rw [hg]; exact (zan (by repeat (first | (with_reducible first | exact HB.out | apply zac | apply zaa | apply zad) | exact HB.out))) : w.heap.size ≤ gb151)); clear HB; have HB := n0_; have BK151 := n1_; have GW151 := n2_; have GE151 := n3_; clear n0_ n1_ n2_ n3_; clear hb hbox hg) | ((with_reducible refine zay (N := 3) rfl ?_); (try (refine zaN (by rfl) ?_; dsimp only)); refine zax ?hg (N := 3) ?hd (cs := #[.int .i64 a1_0, .slice A1_1 l1_1.length c1_1, .slice A1_2 l1_2.length c1_2, .string a1_3, .int .i64 a1_4, .int .i64 a1_5]) (t := 45) ?hr ?_; (case hd => rfl); (case hg => rfl); (case hr => first | (go_simp; done) | (go_simp; rfl)); intro gb152 hg w61 hbox hb; have n0_ := zab.mk (zas (g := gb151) (o := .cells #[.slice A0_0 l0_0.length c0_0] 24 (0, 0)) (by (with_reducible repeat (first | refine zal ?_ _ | refine zam ?_ | refine zaj ?_ _)); exact BK151.out) hb); have n1_ := zab.mk (zak (by repeat (first | (with_reducible first | exact HB.out | apply zac | apply zaa | apply zad | refine zai ?_ GE151.out) | exact HB.out)) hb); have n2_ := zab.mk (hbox); have n3_ := zab.mk ((by rw [hg]; exact (zan (by repeat (first | (with_reducible first | exact HB.out | apply zac | apply zaa | apply zad | refine zai ?_ GE151.out) | exact HB.out))) : w.heap.size ≤ gb152)); have n4_ := zab.mk ((by rw [hg]; exact (zan (by repeat (first | (with_reducible first | exact HB.out | apply zac | apply zaa | apply zad | refine zai ?_ GE151.out) | exact HB.out))) : w.heap.size ≤ gb152)); have n5_ := zab.mk ((by rw [hg]; exact Nat.ne_of_lt (zaL (g := gb151) (o := .cells #[.slice A0_0 l0_0.length c0_0] 24 (0, 0)) (by (with_reducible repeat (first | refine zal ?_ _ | refine zam ?_ | refine zaj ?_ _)); exact BK151.out)) : gb151 ≠ gb152)); have n6_ := zab.mk ((by rw [hg]; exact Nat.ne_of_gt (zaL (g := gb151) (o := .cells #[.slice A0_0 l0_0.length c0_0] 24 (0, 0)) (by (with_reducible repeat (first | refine zal ?_ _ | refine zam ?_ | refine zaj ?_ _)); exact BK151.out)) : gb152 ≠ gb151)); clear BK151; clear HB; have BK151 := n0_; have HB := n1_; have BK152 := n2_; have GW152 := n3_; have GE152 := n4_; have NB151_152 := n5_; have NB152_151 := n6_; clear n0_ n1_ n2_ n3_ n4_ n5_ n6_; clear hb hbox hg; have hnb62 := NB152_151.out; have hnc62 := NB151_152.out; have hcz63_0 : w61.cell? ⟨gb152, 0, none⟩ = some (.int .i64 a1_0) := (zah BK152.out 0).trans rfl; have hcz63_1 : w61.cell? ⟨gb152, 1, none⟩ = some (.slice A1_1 l1_1.length c1_1) := (zah BK152.out 1).trans rfl; have hcz63_2 : w61.cell? ⟨gb152, 2, none⟩ = some (.slice A1_2 l1_2.length c1_2) := (zah BK152.out 2).trans rfl; have hcz63_3 : w61.cell? ⟨gb152, 3, none⟩ = some (.string a1_3) := (zah BK152.out 3).trans rfl; have hcz63_4 : w61.cell? ⟨gb152, 4, none⟩ = some (.int .i64 a1_4) := (zah BK152.out 4).trans rfl; have hcz63_5 : w61.cell? ⟨gb152, 5, none⟩ = some (.int .i64 a1_5) := (zah BK152.out 5).trans rfl; have hfz63_0 := zae BK152.out 0; have hfz63_1 := zae BK152.out 1; have hfz63_2 := zae BK152.out 2; have hfz63_3 := zae BK152.out 3; have hfz63_4 := zae BK152.out 4; have hfz63_5 := zae BK152.out 5))
      go_ret
      exact ⟨by first | rfl | (simp [zar, zaq] <;> rfl) | (simp [*, zar, zaq] <;> rfl), by repeat (first | (with_reducible first | exact HB.out | apply zac | apply zaa | apply zad | refine zai ?_ GE151.out | refine zai ?_ GE152.out) | exact HB.out)⟩
    ·rw [if_neg c45] at H
     have c45b0 : ((l1_1.length : Int) == 0) = false := beq_eq_false_iff_ne.mpr c45
     have c45b1 : ((l1_1.length : Int) != 0) = true := bne_iff_ne.mpr c45
     have c45b2 : ¬ (l1_1 = []) := fun h_ => c45 (by rw [h_]; rfl)
     obtain rfl := Option.some.inj H
     go_enter Try.func59, Try.ntmps59
     go_wp2_with (first | ((with_reducible refine zay (N := 2) rfl ?_); (try (refine zaN (by rfl) ?_; dsimp only)); refine zax ?hg (N := 2) ?hd (cs := #[.slice A0_0 l0_0.length c0_0]) (t := 24) ?hr ?_; (case hd => rfl); (case hg => rfl); (case hr => first | (go_simp; done) | (go_simp; rfl)); intro gb151 hg w64 hbox hb; have n0_ := zab.mk (zak (by repeat (first | (with_reducible first | exact HB.out | apply zac | apply zaa | apply zad) | exact HB.out)) hb); have n1_ := zab.mk (hbox); have n2_ := zab.mk ((by rw [hg]; exact (zan (by repeat (first | (with_reducible first | exact HB.out | apply zac | apply zaa | apply zad) | exact HB.out))) : w.heap.size ≤ gb151)); have n3_ := zab.mk ((by rw [hg]; exact (zan (by repeat (first | (with_reducible first | exact HB.out | apply zac | apply zaa | apply zad) | exact HB.out))) : w.heap.size ≤ gb151)); clear HB; have HB := n0_; have BK151 := n1_; have GW151 := n2_; have GE151 := n3_; clear n0_ n1_ n2_ n3_; clear hb hbox hg) | ((with_reducible refine zay (N := 3) rfl ?_); (try (refine zaN (by rfl) ?_; dsimp only)); refine zax ?hg (N := 3) ?hd (cs := #[.int .i64 a1_0, .slice A1_1 l1_1.length c1_1, .slice A1_2 l1_2.length c1_2, .string a1_3, .int .i64 a1_4, .int .i64 a1_5]) (t := 45) ?hr ?_; (case hd => rfl); (case hg => rfl); (case hr => first | (go_simp; done) | (go_simp; rfl)); intro gb152 hg w65 hbox hb; have n0_ := zab.mk (zas (g := gb151) (o := .cells #[.slice A0_0 l0_0.length c0_0] 24 (0, 0)) (by (with_reducible repeat (first | refine zal ?_ _ | refine zam ?_ | refine zaj ?_ _)); exact BK151.out) hb); have n1_ := zab.mk (zak (by repeat (first | (with_reducible first | exact HB.out | apply zac | apply zaa | apply zad | refine zai ?_ GE151.out) | exact HB.out)) hb); have n2_ := zab.mk (hbox); have n3_ := zab.mk ((by rw [hg]; exact (zan (by repeat (first | (with_reducible first | exact HB.out | apply zac | apply zaa | apply zad | refine zai ?_ GE151.out) | exact HB.out))) : w.heap.size ≤ gb152)); have n4_ := zab.mk ((by rw [hg]; exact (zan (by repeat (first | (with_reducible first | exact HB.out | apply zac | apply zaa | apply zad | refine zai ?_ GE151.out) | exact HB.out))) : w.heap.size ≤ gb152)); have n5_ := zab.mk ((by rw [hg]; exact Nat.ne_of_lt (zaL (g := gb151) (o := .cells #[.slice A0_0 l0_0.length c0_0] 24 (0, 0)) (by (with_reducible repeat (first | refine zal ?_ _ | refine zam ?_ | refine zaj ?_ _)); exact BK151.out)) : gb151 ≠ gb152)); have n6_ := zab.mk ((by rw [hg]; exact Nat.ne_of_gt (zaL (g := gb151) (o := .cells #[.slice A0_0 l0_0.length c0_0] 24 (0, 0)) (by (with_reducible repeat (first | refine zal ?_ _ | refine zam ?_ | refine zaj ?_ _)); exact BK151.out)) : gb152 ≠ gb151)); clear BK151; clear HB; have BK151 := n0_; have HB := n1_; have BK152 := n2_; have GW152 := n3_; have GE152 := n4_; have NB151_152 := n5_; have NB152_151 := n6_; clear n0_ n1_ n2_ n3_ n4_ n5_ n6_; clear hb hbox hg; have hnb66 := NB152_151.out; have hnc66 := NB151_152.out; have hcz67_0 : w65.cell? ⟨gb152, 0, none⟩ = some (.int .i64 a1_0) := (zah BK152.out 0).trans rfl; have hcz67_1 : w65.cell? ⟨gb152, 1, none⟩ = some (.slice A1_1 l1_1.length c1_1) := (zah BK152.out 1).trans rfl; have hcz67_2 : w65.cell? ⟨gb152, 2, none⟩ = some (.slice A1_2 l1_2.length c1_2) := (zah BK152.out 2).trans rfl; have hcz67_3 : w65.cell? ⟨gb152, 3, none⟩ = some (.string a1_3) := (zah BK152.out 3).trans rfl; have hcz67_4 : w65.cell? ⟨gb152, 4, none⟩ = some (.int .i64 a1_4) := (zah BK152.out 4).trans rfl; have hcz67_5 : w65.cell? ⟨gb152, 5, none⟩ = some (.int .i64 a1_5) := (zah BK152.out 5).trans rfl; have hfz67_0 := zae BK152.out 0; have hfz67_1 := zae BK152.out 1; have hfz67_2 := zae BK152.out 2; have hfz67_3 := zae BK152.out 3; have hfz67_4 := zae BK152.out 4; have hfz67_5 := zae BK152.out 5))
     go_ret
     exact ⟨by first | rfl | (simp [zar, zaq] <;> rfl) | (simp [*, zar, zaq] <;> rfl), by repeat (first | (with_reducible first | exact HB.out | apply zac | apply zaa | apply zad | refine zai ?_ GE151.out | refine zai ?_ GE152.out) | exact HB.out)⟩
   ·rw [if_neg c44] at H
    have c44b0 : (a1_0 == 2) = false := beq_eq_false_iff_ne.mpr c44
    have c44b1 : (a1_0 != 2) = true := bne_iff_ne.mpr c44
    by_cases c68 : a1_0 = 3
    ·rw [if_pos c68] at H
     have c68b0 : (a1_0 == 3) = true := beq_iff_eq.mpr c68
     have c68b1 : (a1_0 != 3) = false := bne_eq_false_iff_eq.mpr c68
     clear c68
     by_cases c69 : (wrap64 ((l1_1.length : Int) + (l1_2.length : Int))) = 0
     ·rw [if_pos c69] at H
      have c69b0 : ((wrap64 ((l1_1.length : Int) + (l1_2.length : Int))) == 0) = true := beq_iff_eq.mpr c69
      have c69b1 : ((wrap64 ((l1_1.length : Int) + (l1_2.length : Int))) != 0) = false := bne_eq_false_iff_eq.mpr c69
      clear c69
      replace H := Option.bind_eq_some_iff.mp H
      obtain ⟨t156, A700, H⟩ := H
      replace H : (if t156 = true then ((za2.f a1_5).bind fun t157 => (some t157)) else (some false)) = some r := H
      have A70 := zab.mk A700
      clear A700
      by_cases c71 : t156 = true
      ·subst c71
       have H1 : ((za2.f a1_5).bind fun t157 => (some t157)) = some r := by rw [if_pos rfl] at H; exact H
       clear H
       have H := H1
       clear H1
       replace H := Option.bind_eq_some_iff.mp H
       obtain ⟨t157, A720, H⟩ := H
       replace H : (some t157) = some r := H
       have A72 := zab.mk A720
       clear A720
       obtain rfl := Option.some.inj H
       go_enter Try.func59, Try.ntmps59
       go_wp2_with (first | ((with_reducible refine zay (N := 2) rfl ?_); (try (refine zaN (by rfl) ?_; dsimp only)); refine zax ?hg (N := 2) ?hd (cs := #[.slice A0_0 l0_0.length c0_0]) (t := 24) ?hr ?_; (case hd => rfl); (case hg => rfl); (case hr => first | (go_simp; done) | (go_simp; rfl)); intro gb151 hg w73 hbox hb; have n0_ := zab.mk (zak (by repeat (first | (with_reducible first | exact HB.out | apply zac | apply zaa | apply zad) | exact HB.out)) hb); have n1_ := zab.mk (hbox); have n2_ := zab.mk ((by rw [hg]; exact (zan (by repeat (first | (with_reducible first | exact HB.out | apply zac | apply zaa | apply zad) | exact HB.out))) : w.heap.size ≤ gb151)); have n3_ := zab.mk ((by rw [hg]; exact (zan (by repeat (first | (with_reducible first | exact HB.out | apply zac | apply zaa | apply zad) | exact HB.out))) : w.heap.size ≤ gb151)); clear HB; have HB := n0_; have BK151 := n1_; have GW151 := n2_; have GE151 := n3_; clear n0_ n1_ n2_ n3_; clear hb hbox hg) | ((with_reducible refine zay (N := 3) rfl ?_); (try (refine zaN (by rfl) ?_; dsimp only)); refine zax ?hg (N := 3) ?hd (cs := #[.int .i64 a1_0, .slice A1_1 l1_1.length c1_1, .slice A1_2 l1_2.length c1_2, .string a1_3, .int .i64 a1_4, .int .i64 a1_5]) (t := 45) ?hr ?_; (case hd => rfl); (case hg => rfl); (case hr => first | (go_simp; done) | (go_simp; rfl)); intro gb152 hg w74 hbox hb; have n0_ := zab.mk (zas (g := gb151) (o := .cells #[.slice A0_0 l0_0.length c0_0] 24 (0, 0)) (by (with_reducible repeat (first | refine zal ?_ _ | refine zam ?_ | refine zaj ?_ _)); exact BK151.out) hb); have n1_ := zab.mk (zak (by repeat (first | (with_reducible first | exact HB.out | apply zac | apply zaa | apply zad | refine zai ?_ GE151.out) | exact HB.out)) hb); have n2_ := zab.mk (hbox); have n3_ := zab.mk ((by rw [hg]; exact (zan (by repeat (first | (with_reducible first | exact HB.out | apply zac | apply zaa | apply zad | refine zai ?_ GE151.out) | exact HB.out))) : w.heap.size ≤ gb152)); have n4_ := zab.mk ((by rw [hg]; exact (zan (by repeat (first | (with_reducible first | exact HB.out | apply zac | apply zaa | apply zad | refine zai ?_ GE151.out) | exact HB.out))) : w.heap.size ≤ gb152)); have n5_ := zab.mk ((by rw [hg]; exact Nat.ne_of_lt (zaL (g := gb151) (o := .cells #[.slice A0_0 l0_0.length c0_0] 24 (0, 0)) (by (with_reducible repeat (first | refine zal ?_ _ | refine zam ?_ | refine zaj ?_ _)); exact BK151.out)) : gb151 ≠ gb152)); have n6_ := zab.mk ((by rw [hg]; exact Nat.ne_of_gt (zaL (g := gb151) (o := .cells #[.slice A0_0 l0_0.length c0_0] 24 (0, 0)) (by (with_reducible repeat (first | refine zal ?_ _ | refine zam ?_ | refine zaj ?_ _)); exact BK151.out)) : gb152 ≠ gb151)); clear BK151; clear HB; have BK151 := n0_; have HB := n1_; have BK152 := n2_; have GW152 := n3_; have GE152 := n4_; have NB151_152 := n5_; have NB152_151 := n6_; clear n0_ n1_ n2_ n3_ n4_ n5_ n6_; clear hb hbox hg; have hnb75 := NB152_151.out; have hnc75 := NB151_152.out; have hcz76_0 : w74.cell? ⟨gb152, 0, none⟩ = some (.int .i64 a1_0) := (zah BK152.out 0).trans rfl; have hcz76_1 : w74.cell? ⟨gb152, 1, none⟩ = some (.slice A1_1 l1_1.length c1_1) := (zah BK152.out 1).trans rfl; have hcz76_2 : w74.cell? ⟨gb152, 2, none⟩ = some (.slice A1_2 l1_2.length c1_2) := (zah BK152.out 2).trans rfl; have hcz76_3 : w74.cell? ⟨gb152, 3, none⟩ = some (.string a1_3) := (zah BK152.out 3).trans rfl; have hcz76_4 : w74.cell? ⟨gb152, 4, none⟩ = some (.int .i64 a1_4) := (zah BK152.out 4).trans rfl; have hcz76_5 : w74.cell? ⟨gb152, 5, none⟩ = some (.int .i64 a1_5) := (zah BK152.out 5).trans rfl; have hfz76_0 := zae BK152.out 0; have hfz76_1 := zae BK152.out 1; have hfz76_2 := zae BK152.out 2; have hfz76_3 := zae BK152.out 3; have hfz76_4 := zae BK152.out 4; have hfz76_5 := zae BK152.out 5) | (go_at_call 73; (with_reducible refine (zbO.calls a1_3 true _ A70.out).mono ?_); rintro e w' ⟨rfl, ⟨nd, rfl⟩⟩) | (go_at_call 45; (with_reducible refine (za2.calls a1_5 t157 _ A72.out).mono ?_); rintro e w' ⟨rfl, ⟨nd, rfl⟩⟩))
       go_ret
       exact ⟨by first | rfl | (simp [zar, zaq] <;> rfl) | (simp [*, zar, zaq] <;> rfl), by repeat (first | (with_reducible first | exact HB.out | apply zac | apply zaa | apply zad | refine zai ?_ GE151.out | refine zai ?_ GE152.out) | exact HB.out)⟩
      ·replace c71 := Bool.eq_false_iff.mpr c71
       subst c71
       have H1 : (some false) = some r := by rw [if_neg (show ¬ (false = true) by decide)] at H; exact H
       clear H
       have H := H1
       clear H1
       obtain rfl := Option.some.inj H
       go_enter Try.func59, Try.ntmps59
       go_wp2_with (first | ((with_reducible refine zay (N := 2) rfl ?_); (try (refine zaN (by rfl) ?_; dsimp only)); refine zax ?hg (N := 2) ?hd (cs := #[.slice A0_0 l0_0.length c0_0]) (t := 24) ?hr ?_; (case hd => rfl); (case hg => rfl); (case hr => first | (go_simp; done) | (go_simp; rfl)); intro gb151 hg w77 hbox hb; have n0_ := zab.mk (zak (by repeat (first | (with_reducible first | exact HB.out | apply zac | apply zaa | apply zad) | exact HB.out)) hb); have n1_ := zab.mk (hbox); have n2_ := zab.mk ((by rw [hg]; exact (zan (by repeat (first | (with_reducible first | exact HB.out | apply zac | apply zaa | apply zad) | exact HB.out))) : w.heap.size ≤ gb151)); have n3_ := zab.mk ((by rw [hg]; exact (zan (by repeat (first | (with_reducible first | exact HB.out | apply zac | apply zaa | apply zad) | exact HB.out))) : w.heap.size ≤ gb151)); clear HB; have HB := n0_; have BK151 := n1_; have GW151 := n2_; have GE151 := n3_; clear n0_ n1_ n2_ n3_; clear hb hbox hg) | ((with_reducible refine zay (N := 3) rfl ?_); (try (refine zaN (by rfl) ?_; dsimp only)); refine zax ?hg (N := 3) ?hd (cs := #[.int .i64 a1_0, .slice A1_1 l1_1.length c1_1, .slice A1_2 l1_2.length c1_2, .string a1_3, .int .i64 a1_4, .int .i64 a1_5]) (t := 45) ?hr ?_; (case hd => rfl); (case hg => rfl); (case hr => first | (go_simp; done) | (go_simp; rfl)); intro gb152 hg w78 hbox hb; have n0_ := zab.mk (zas (g := gb151) (o := .cells #[.slice A0_0 l0_0.length c0_0] 24 (0, 0)) (by (with_reducible repeat (first | refine zal ?_ _ | refine zam ?_ | refine zaj ?_ _)); exact BK151.out) hb); have n1_ := zab.mk (zak (by repeat (first | (with_reducible first | exact HB.out | apply zac | apply zaa | apply zad | refine zai ?_ GE151.out) | exact HB.out)) hb); have n2_ := zab.mk (hbox); have n3_ := zab.mk ((by rw [hg]; exact (zan (by repeat (first | (with_reducible first | exact HB.out | apply zac | apply zaa | apply zad | refine zai ?_ GE151.out) | exact HB.out))) : w.heap.size ≤ gb152)); have n4_ := zab.mk ((by rw [hg]; exact (zan (by repeat (first | (with_reducible first | exact HB.out | apply zac | apply zaa | apply zad | refine zai ?_ GE151.out) | exact HB.out))) : w.heap.size ≤ gb152)); have n5_ := zab.mk ((by rw [hg]; exact Nat.ne_of_lt (zaL (g := gb151) (o := .cells #[.slice A0_0 l0_0.length c0_0] 24 (0, 0)) (by (with_reducible repeat (first | refine zal ?_ _ | refine zam ?_ | refine zaj ?_ _)); exact BK151.out)) : gb151 ≠ gb152)); have n6_ := zab.mk ((by rw [hg]; exact Nat.ne_of_gt (zaL (g := gb151) (o := .cells #[.slice A0_0 l0_0.length c0_0] 24 (0, 0)) (by (with_reducible repeat (first | refine zal ?_ _ | refine zam ?_ | refine zaj ?_ _)); exact BK151.out)) : gb152 ≠ gb151)); clear BK151; clear HB; have BK151 := n0_; have HB := n1_; have BK152 := n2_; have GW152 := n3_; have GE152 := n4_; have NB151_152 := n5_; have NB152_151 := n6_; clear n0_ n1_ n2_ n3_ n4_ n5_ n6_; clear hb hbox hg; have hnb79 := NB152_151.out; have hnc79 := NB151_152.out; have hcz80_0 : w78.cell? ⟨gb152, 0, none⟩ = some (.int .i64 a1_0) := (zah BK152.out 0).trans rfl; have hcz80_1 : w78.cell? ⟨gb152, 1, none⟩ = some (.slice A1_1 l1_1.length c1_1) := (zah BK152.out 1).trans rfl; have hcz80_2 : w78.cell? ⟨gb152, 2, none⟩ = some (.slice A1_2 l1_2.length c1_2) := (zah BK152.out 2).trans rfl; have hcz80_3 : w78.cell? ⟨gb152, 3, none⟩ = some (.string a1_3) := (zah BK152.out 3).trans rfl; have hcz80_4 : w78.cell? ⟨gb152, 4, none⟩ = some (.int .i64 a1_4) := (zah BK152.out 4).trans rfl; have hcz80_5 : w78.cell? ⟨gb152, 5, none⟩ = some (.int .i64 a1_5) := (zah BK152.out 5).trans rfl; have hfz80_0 := zae BK152.out 0; have hfz80_1 := zae BK152.out 1; have hfz80_2 := zae BK152.out 2; have hfz80_3 := zae BK152.out 3; have hfz80_4 := zae BK152.out 4; have hfz80_5 := zae BK152.out 5) | (go_at_call 73; (with_reducible refine (zbO.calls a1_3 false _ A70.out).mono ?_); rintro e w' ⟨rfl, ⟨nd, rfl⟩⟩))
       go_ret
       exact ⟨by first | rfl | (simp [zar, zaq] <;> rfl) | (simp [*, zar, zaq] <;> rfl), by repeat (first | (with_reducible first | exact HB.out | apply zac | apply zaa | apply zad | refine zai ?_ GE151.out | refine zai ?_ GE152.out) | exact HB.out)⟩
     ·rw [if_neg c69] at H
      have c69b0 : ((wrap64 ((l1_1.length : Int) + (l1_2.length : Int))) == 0) = false := beq_eq_false_iff_ne.mpr c69
      have c69b1 : ((wrap64 ((l1_1.length : Int) + (l1_2.length : Int))) != 0) = true := bne_iff_ne.mpr c69
      obtain rfl := Option.some.inj H
      go_enter Try.func59, Try.ntmps59
      go_wp2_with (first | ((with_reducible refine zay (N := 2) rfl ?_); (try (refine zaN (by rfl) ?_; dsimp only)); refine zax ?hg (N := 2) ?hd (cs := #[.slice A0_0 l0_0.length c0_0]) (t := 24) ?hr ?_; (case hd => rfl); (case hg => rfl); (case hr => first | (go_simp; done) | (go_simp; rfl)); intro gb151 hg w81 hbox hb; have n0_ := zab.mk (zak (by repeat (first | (with_reducible first | exact HB.out | apply zac | apply zaa | apply zad) | exact HB.out)) hb); have n1_ := zab.mk (hbox); have n2_ := zab.mk ((by rw [hg]; exact (zan (by repeat (first | (with_reducible first | exact HB.out | apply zac | apply zaa | apply zad) | exact HB.out))) : w.heap.size ≤ gb151)); have n3_ := zab.mk ((by rw [hg]; exact (zan (by repeat (first | (with_reducible first | exact HB.out | apply zac | apply zaa | apply zad) | exact HB.out))) : w.heap.size ≤ gb151)); clear HB; have HB := n0_; have BK151 := n1_; have GW151 := n2_; have GE151 := n3_; clear n0_ n1_ n2_ n3_; clear hb hbox hg) | ((with_reducible refine zay (N := 3) rfl ?_); (try (refine zaN (by rfl) ?_; dsimp only)); refine zax ?hg (N := 3) ?hd (cs := #[.int .i64 a1_0, .slice A1_1 l1_1.length c1_1, .slice A1_2 l1_2.length c1_2, .string a1_3, .int .i64 a1_4, .int .i64 a1_5]) (t := 45) ?hr ?_; (case hd => rfl); (case hg => rfl); (case hr => first | (go_simp; done) | (go_simp; rfl)); intro gb152 hg w82 hbox hb; have n0_ := zab.mk (zas (g := gb151) (o := .cells #[.slice A0_0 l0_0.length c0_0] 24 (0, 0)) (by (with_reducible repeat (first | refine zal ?_ _ | refine zam ?_ | refine zaj ?_ _)); exact BK151.out) hb); have n1_ := zab.mk (zak (by repeat (first | (with_reducible first | exact HB.out | apply zac | apply zaa | apply zad | refine zai ?_ GE151.out) | exact HB.out)) hb); have n2_ := zab.mk (hbox); have n3_ := zab.mk ((by rw [hg]; exact (zan (by repeat (first | (with_reducible first | exact HB.out | apply zac | apply zaa | apply zad | refine zai ?_ GE151.out) | exact HB.out))) : w.heap.size ≤ gb152)); have n4_ := zab.mk ((by rw [hg]; exact (zan (by repeat (first | (with_reducible first | exact HB.out | apply zac | apply zaa | apply zad | refine zai ?_ GE151.out) | exact HB.out))) : w.heap.size ≤ gb152)); have n5_ := zab.mk ((by rw [hg]; exact Nat.ne_of_lt (zaL (g := gb151) (o := .cells #[.slice A0_0 l0_0.length c0_0] 24 (0, 0)) (by (with_reducible repeat (first | refine zal ?_ _ | refine zam ?_ | refine zaj ?_ _)); exact BK151.out)) : gb151 ≠ gb152)); have n6_ := zab.mk ((by rw [hg]; exact Nat.ne_of_gt (zaL (g := gb151) (o := .cells #[.slice A0_0 l0_0.length c0_0] 24 (0, 0)) (by (with_reducible repeat (first | refine zal ?_ _ | refine zam ?_ | refine zaj ?_ _)); exact BK151.out)) : gb152 ≠ gb151)); clear BK151; clear HB; have BK151 := n0_; have HB := n1_; have BK152 := n2_; have GW152 := n3_; have GE152 := n4_; have NB151_152 := n5_; have NB152_151 := n6_; clear n0_ n1_ n2_ n3_ n4_ n5_ n6_; clear hb hbox hg; have hnb83 := NB152_151.out; have hnc83 := NB151_152.out; have hcz84_0 : w82.cell? ⟨gb152, 0, none⟩ = some (.int .i64 a1_0) := (zah BK152.out 0).trans rfl; have hcz84_1 : w82.cell? ⟨gb152, 1, none⟩ = some (.slice A1_1 l1_1.length c1_1) := (zah BK152.out 1).trans rfl; have hcz84_2 : w82.cell? ⟨gb152, 2, none⟩ = some (.slice A1_2 l1_2.length c1_2) := (zah BK152.out 2).trans rfl; have hcz84_3 : w82.cell? ⟨gb152, 3, none⟩ = some (.string a1_3) := (zah BK152.out 3).trans rfl; have hcz84_4 : w82.cell? ⟨gb152, 4, none⟩ = some (.int .i64 a1_4) := (zah BK152.out 4).trans rfl; have hcz84_5 : w82.cell? ⟨gb152, 5, none⟩ = some (.int .i64 a1_5) := (zah BK152.out 5).trans rfl; have hfz84_0 := zae BK152.out 0; have hfz84_1 := zae BK152.out 1; have hfz84_2 := zae BK152.out 2; have hfz84_3 := zae BK152.out 3; have hfz84_4 := zae BK152.out 4; have hfz84_5 := zae BK152.out 5))
      go_ret
      exact ⟨by first | rfl | (simp [zar, zaq] <;> rfl) | (simp [*, zar, zaq] <;> rfl), by repeat (first | (with_reducible first | exact HB.out | apply zac | apply zaa | apply zad | refine zai ?_ GE151.out | refine zai ?_ GE152.out) | exact HB.out)⟩
    ·rw [if_neg c68] at H
     have c68b0 : (a1_0 == 3) = false := beq_eq_false_iff_ne.mpr c68
     have c68b1 : (a1_0 != 3) = true := bne_iff_ne.mpr c68
     obtain rfl := Option.some.inj H
     go_enter Try.func59, Try.ntmps59
     go_wp2_with (first | ((with_reducible refine zay (N := 2) rfl ?_); (try (refine zaN (by rfl) ?_; dsimp only)); refine zax ?hg (N := 2) ?hd (cs := #[.slice A0_0 l0_0.length c0_0]) (t := 24) ?hr ?_; (case hd => rfl); (case hg => rfl); (case hr => first | (go_simp; done) | (go_simp; rfl)); intro gb151 hg w85 hbox hb; have n0_ := zab.mk (zak (by repeat (first | (with_reducible first | exact HB.out | apply zac | apply zaa | apply zad) | exact HB.out)) hb); have n1_ := zab.mk (hbox); have n2_ := zab.mk ((by rw [hg]; exact (zan (by repeat (first | (with_reducible first | exact HB.out | apply zac | apply zaa | apply zad) | exact HB.out))) : w.heap.size ≤ gb151)); have n3_ := zab.mk ((by rw [hg]; exact (zan (by repeat (first | (with_reducible first | exact HB.out | apply zac | apply zaa | apply zad) | exact HB.out))) : w.heap.size ≤ gb151)); clear HB; have HB := n0_; have BK151 := n1_; have GW151 := n2_; have GE151 := n3_; clear n0_ n1_ n2_ n3_; clear hb hbox hg) | ((with_reducible refine zay (N := 3) rfl ?_); (try (refine zaN (by rfl) ?_; dsimp only)); refine zax ?hg (N := 3) ?hd (cs := #[.int .i64 a1_0, .slice A1_1 l1_1.length c1_1, .slice A1_2 l1_2.length c1_2, .string a1_3, .int .i64 a1_4, .int .i64 a1_5]) (t := 45) ?hr ?_; (case hd => rfl); (case hg => rfl); (case hr => first | (go_simp; done) | (go_simp; rfl)); intro gb152 hg w86 hbox hb; have n0_ := zab.mk (zas (g := gb151) (o := .cells #[.slice A0_0 l0_0.length c0_0] 24 (0, 0)) (by (with_reducible repeat (first | refine zal ?_ _ | refine zam ?_ | refine zaj ?_ _)); exact BK151.out) hb); have n1_ := zab.mk (zak (by repeat (first | (with_reducible first | exact HB.out | apply zac | apply zaa | apply zad | refine zai ?_ GE151.out) | exact HB.out)) hb); have n2_ := zab.mk (hbox); have n3_ := zab.mk ((by rw [hg]; exact (zan (by repeat (first | (with_reducible first | exact HB.out | apply zac | apply zaa | apply zad | refine zai ?_ GE151.out) | exact HB.out))) : w.heap.size ≤ gb152)); have n4_ := zab.mk ((by rw [hg]; exact (zan (by repeat (first | (with_reducible first | exact HB.out | apply zac | apply zaa | apply zad | refine zai ?_ GE151.out) | exact HB.out))) : w.heap.size ≤ gb152)); have n5_ := zab.mk ((by rw [hg]; exact Nat.ne_of_lt (zaL (g := gb151) (o := .cells #[.slice A0_0 l0_0.length c0_0] 24 (0, 0)) (by (with_reducible repeat (first | refine zal ?_ _ | refine zam ?_ | refine zaj ?_ _)); exact BK151.out)) : gb151 ≠ gb152)); have n6_ := zab.mk ((by rw [hg]; exact Nat.ne_of_gt (zaL (g := gb151) (o := .cells #[.slice A0_0 l0_0.length c0_0] 24 (0, 0)) (by (with_reducible repeat (first | refine zal ?_ _ | refine zam ?_ | refine zaj ?_ _)); exact BK151.out)) : gb152 ≠ gb151)); clear BK151; clear HB; have BK151 := n0_; have HB := n1_; have BK152 := n2_; have GW152 := n3_; have GE152 := n4_; have NB151_152 := n5_; have NB152_151 := n6_; clear n0_ n1_ n2_ n3_ n4_ n5_ n6_; clear hb hbox hg; have hnb87 := NB152_151.out; have hnc87 := NB151_152.out; have hcz88_0 : w86.cell? ⟨gb152, 0, none⟩ = some (.int .i64 a1_0) := (zah BK152.out 0).trans rfl; have hcz88_1 : w86.cell? ⟨gb152, 1, none⟩ = some (.slice A1_1 l1_1.length c1_1) := (zah BK152.out 1).trans rfl; have hcz88_2 : w86.cell? ⟨gb152, 2, none⟩ = some (.slice A1_2 l1_2.length c1_2) := (zah BK152.out 2).trans rfl; have hcz88_3 : w86.cell? ⟨gb152, 3, none⟩ = some (.string a1_3) := (zah BK152.out 3).trans rfl; have hcz88_4 : w86.cell? ⟨gb152, 4, none⟩ = some (.int .i64 a1_4) := (zah BK152.out 4).trans rfl; have hcz88_5 : w86.cell? ⟨gb152, 5, none⟩ = some (.int .i64 a1_5) := (zah BK152.out 5).trans rfl; have hfz88_0 := zae BK152.out 0; have hfz88_1 := zae BK152.out 1; have hfz88_2 := zae BK152.out 2; have hfz88_3 := zae BK152.out 3; have hfz88_4 := zae BK152.out 4; have hfz88_5 := zae BK152.out 5))
     go_ret
     exact ⟨by first | rfl | (simp [zar, zaq] <;> rfl) | (simp [*, zar, zaq] <;> rfl), by repeat (first | (with_reducible first | exact HB.out | apply zac | apply zaa | apply zad | refine zai ?_ GE151.out | refine zai ?_ GE152.out) | exact HB.out)⟩
end Go.Proofs.Ytjghephnjkffcaa.PCk
