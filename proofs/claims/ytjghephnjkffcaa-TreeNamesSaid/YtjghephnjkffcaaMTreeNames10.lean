/- Parts of one proof, merged by a program of this repo: walks over the given program and plain facts. -/
import Derived.Test.YtjghephnjkffcaaMTreeNames4
import Derived.Shelf.Spec.SlicesInsertGrow
import Derived.Test.YtjghephnjkffcaaMTreeNames2
import Derived.Test.YtjghephnjkffcaaMTreeNames9
import Derived.Deep.DrawnRows
import Derived.Deep.RegionHeld3
import Derived.Test.YtjghephnjkffcaaMTreeNames5
import Derived.Test.YtjghephnjkffcaaMTreeNames8
namespace Go.Proofs.Ytjghephnjkffcaa.PCk
open Go.RowKit Go.Proofs.YtjghephnjkffcaaW.PrintWords Go.Proofs.YtjghephnjkffcaaW.PrintLast Go.Proofs.YtjghephnjkffcaaW.PrintMore
attribute [local go_sem] zb0 zbY zcl zck zbC zbB zbZ zbX
set_option linter.unusedVariables false
set_option linter.unusedSimpArgs false
def zaX.j0 : Nat → ByteArray → Bool → Option (Int)
 | 0, _, _ => none
 | k + 1, x1, x8 => if x8 = true then (some 28) else (if (x1.size : Int) > 512 then (some 37) else (some 0))
def zaX.f (k : Nat) (a0 : Int) (a1 : ByteArray) : Option (Int) := if a0 = 3 then (if a1.toList = ([] : List UInt8) then (zaX.j0 k a1 true) else ((strings_IndexByte.f a1 0).bind fun t235 => (zaX.j0 k a1 (decide (t235 ≥ 0))))) else (some 0)
theorem zaX.mono_l : ∀ k, (∀ y0 y1, LeO (zaX.j0 k y0 y1) (zaX.j0 (k + 1) y0 y1))
 | 0 => fun _ _ r h => by simp [zaX.j0] at h
 | k + 1 => by
  have ih0 := zaX.mono_l k
  ·intro y0 y1
   unfold zaX.j0
   repeat' first
   | (with_reducible exact ih0 _ _)
   | (with_reducible exact LeO.refl _)
   | (with_reducible exact LeO.none _)
   | (with_reducible refine LeO.ite ?_ ?_)
   | (with_reducible refine LeO.bind ?_ (fun _ => ?_))
   | exact ih0 _ _
   | exact LeO.none _
   | refine LeO.ite ?_ ?_
   | refine LeO.bind ?_ (fun _ => ?_)
theorem zaX.mono : ∀ a0 a1 k, LeO (zaX.f k a0 a1) (zaX.f (k + 1) a0 a1) := by
 intro a0 a1 k
 have ih0 := zaX.mono_l k
 unfold zaX.f
 repeat' first
   | (with_reducible exact ih0 _ _)
   | (with_reducible exact LeO.refl _)
   | (with_reducible exact LeO.none _)
   | (with_reducible refine LeO.ite ?_ ?_)
   | (with_reducible refine LeO.bind ?_ (fun _ => ?_))
   | exact ih0 _ _
   | exact LeO.none _
   | refine LeO.ite ?_ ?_
   | refine LeO.bind ?_ (fun _ => ?_)
set_option maxHeartbeats 8000000 in
set_option maxRecDepth 100000 in
theorem zaX.calls (k : Nat) (a0 : Int) (a1 : ByteArray) (r : Int) (w : World) (h : zaX.f k a0 a1 = some r) :
  Calls Try.prog 51 #[.int .i64 a0, .string a1] w fun e w' => e = .returned (.int .i64 r) ∧ zaJ w w' := by
 have H : (if a0 = 3 then (if a1.toList = ([] : List UInt8) then (zaX.j0 k a1 true) else ((strings_IndexByte.f a1 0).bind fun t235 => (zaX.j0 k a1 (decide (t235 ≥ 0))))) else (some 0)) = some r := h
 clear h
 by_cases c3 : a0 = 3
 ·rw [if_pos c3] at H
  have c3b0 : (a0 == 3) = true := beq_iff_eq.mpr c3
  have c3b1 : (a0 != 3) = false := bne_eq_false_iff_eq.mpr c3
  clear c3
  have HC4 := zab.mk H
  clear H
  go_enter Try.func51, Try.ntmps51
  go_upto_region 3 with (fail)
  go_cut [8] (fun v8 wc => ∃ (kq : Nat) (x8_3 : Bool), v8 = .bool x8_3 ∧ zab (zaX.j0 kq a1 x8_3 = some r) ∧ zab (kq ≤ k) ∧ zaJ w wc)
  case first =>
   have H := HC4.out
   clear HC4
   by_cases c5 : a1.toList = ([] : List UInt8)
   ·rw [if_pos c5] at H
    have c5b0 : (a1.toList == ([] : List UInt8)) = true := beq_iff_eq.mpr c5
    have c5b1 : (a1.toList != ([] : List UInt8)) = false := bne_eq_false_iff_eq.mpr c5
    clear c5
    (first | rw [c5b0] | (simp only [zb6, zca]; rw [c5b0]) | skip)
    have H' := zab.mk H
    clear H
    go_wp2
    go_meet
    case rel => exact ⟨_, (true), (by first | rfl | (simp; done) | (simp [*]; done)), H', ⟨by first | omega | exact Nat.le_refl _⟩, by repeat (first | exact zaJ.refl _ | apply zaJ.step)⟩
   ·rw [if_neg c5] at H
    have c5b0 : (a1.toList == ([] : List UInt8)) = false := beq_eq_false_iff_ne.mpr c5
    have c5b1 : (a1.toList != ([] : List UInt8)) = true := bne_iff_ne.mpr c5
    (first | rw [c5b0] | (simp only [zb6, zca]; rw [c5b0]) | skip)
    replace H := Option.bind_eq_some_iff.mp H
    obtain ⟨t235, A60, H⟩ := H
    replace H : (zaX.j0 k a1 (decide (t235 ≥ 0))) = some r := H
    have A6 := zab.mk A60
    clear A60
    have H' := zab.mk H
    clear H
    go_wp2_with (first | (go_at_call 37; (with_reducible refine (strings_IndexByte.calls a1 0 t235 _ A6.out).mono ?_); rintro e w' ⟨rfl, ⟨nd, rfl⟩⟩))
    go_meet
    case rel => exact ⟨_, (decide (t235 ≥ 0)), (by first | rfl | (simp; done) | (simp [*]; done)), H', ⟨by first | omega | exact Nat.le_refl _⟩, by repeat (first | exact zaJ.refl _ | apply zaJ.step)⟩
  case rest =>
   clear HC4
   try clear p2
   try clear c3
   try clear c3b0
   try clear c3b1
   try clear c5
   try clear c5b0
   try clear c5b1
   obtain ⟨kq, x8_3, rfl, HA, HJ3, ⟨mc3, rfl⟩⟩ := hcut
   cases kq with
   | zero => exact absurd HA.out (by simp [zaX.j0])
   | succ kj3 =>
    have H := HA.out
    clear HA
    simp only [zaX.j0] at H
    by_cases c7 : x8_3 = true
    ·subst c7
     have H1 : (some 28) = some r := by rw [if_pos rfl] at H; exact H
     clear H
     have H := H1
     clear H1
     obtain rfl := Option.some.inj H
     go_wp2
     go_ret
     exact ⟨by first | rfl | (simp; done) | (simp [*]; done), by repeat (first | exact zaJ.refl _ | apply zaJ.step)⟩
    ·replace c7 := Bool.eq_false_iff.mpr c7
     subst c7
     have H1 : (if (a1.size : Int) > 512 then (some 37) else (some 0)) = some r := by rw [if_neg (show ¬ (false = true) by decide)] at H; exact H
     clear H
     have H := H1
     clear H1
     by_cases c8 : (a1.size : Int) > 512
     ·rw [if_pos c8] at H
      have c8b0 : decide (512 < (a1.size : Int)) = true := decide_eq_true c8
      have c8b1 : decide (512 < a1.size) = true := decide_eq_true (by omega)
      clear c8
      obtain rfl := Option.some.inj H
      go_wp2
      go_ret
      exact ⟨by first | rfl | (simp; done) | (simp [*]; done), by repeat (first | exact zaJ.refl _ | apply zaJ.step)⟩
     ·rw [if_neg c8] at H
      have c8b0 : decide (512 < (a1.size : Int)) = false := decide_eq_false c8
      have c8b1 : decide (512 < a1.size) = false := decide_eq_false (by omega)
      clear c8
      obtain rfl := Option.some.inj H
      go_wp2
      go_ret
      exact ⟨by first | rfl | (simp; done) | (simp [*]; done), by repeat (first | exact zaJ.refl _ | apply zaJ.step)⟩
 ·rw [if_neg c3] at H
  have c3b0 : (a0 == 3) = false := beq_eq_false_iff_ne.mpr c3
  have c3b1 : (a0 != 3) = true := bne_iff_ne.mpr c3
  obtain rfl := Option.some.inj H
  go_enter Try.func51, Try.ntmps51
  go_wp2
  go_ret
  exact ⟨by first | rfl | (simp; done) | (simp [*]; done), by repeat (first | exact zaJ.refl _ | apply zaJ.step)⟩
theorem run_copy_sz {P : Program} (w : World) (dT sT ty elem : TypeId) (g o dLen dCap : Nat) (a : Addr) (sLen sCap : Nat) (cur : Array Value) (t : TypeId) (cs : List Value) (sz m : Nat)
  (hu : P.underlying dT = some (.slice elem)) (hs : (P.info? elem).map (·.size) = some sz) (hm : Nat.min sLen dLen = m)
  (hg : w.heap[g]? = some (.cells cur t (0, 0))) (hn : cs.length = m * sz)
  (hsrc : ∀ j v, cs[j]? = some v → w.cell? (a.add j) = some v) (hfit : o + cs.length ≤ cur.size) (h1 : ∀ v ∈ cs, v.oneCell' = true) :
  (Builtin.copy_ #[dT, sT] ty #[.slice (some ⟨g, o, none⟩) dLen dCap, .slice (some a) sLen sCap]).run P w =
   .ok (goInt m) (w.setRow g (cur.toList.take o ++ cs ++ cur.toList.drop (o + cs.length)).toArray) := by
 have hl := run_loadCells_list (P := P) w a cs hsrc
 have hst := run_storeCells_at P g o t cs 0 cur w hg (by simpa using hfit) h1
 cases hq : P.info? elem with
 | none => simp [hq] at hs
 | some i =>
  have hi : i.size = sz := by simpa [hq] using hs
  simp [Builtin.copy_, run_underlying hu, Builtin.lenOf, Builtin.firstCells, sizeOf, typeInfo, hq, hi, hm, ← hn, hl, hst]
theorem apart_run {w : World} {vb g : Nat} {A B : Array Value} {tA tB e tS tR : TypeId} (n la ca lb cb off : Nat) (ht : Try.prog.underlying tS = some (.slice e)) (hz : ∀ w, (Go.sizeOf e).run Try.prog w = .ok n w) (hne : vb ≠ g) (hA : w.heap[vb]? = some (.cells A tA (0, 0))) (hB : w.heap[g]? = some (.cells B tB (0, 0))) (hB0 : B.size ≠ 0) :
  (Extern.SlicesOverlaps.overlaps #[tS, tS] #[tR] #[.slice (some ⟨vb, 0, none⟩) la ca, .slice (some ⟨g, off, none⟩) lb cb]).run Try.prog w = .ok (.bool false) w :=
 Lib.run_overlaps_apart w tS tR e ht n hz ⟨vb, 0, none⟩ ⟨g, off, none⟩ la ca lb cb hne tA tB A.size B.size (by simp [World.shape?, hA]) (by simp [World.shape?, hB]) hB0 (by simp [World.frozen?, hA]) (by simp [World.frozen?, hA])
theorem zaB.size50 : (Try.prog.info? 66).map (·.size) = some 2 := by
 obtain ⟨i0, hi0, _, hsz, _⟩ := info_parts info66
 rw [hi0]; simp [hsz]
theorem zaB.sizeOf50 (w : World) : (Go.sizeOf 66).run Try.prog w = .ok 2 w := by
 obtain ⟨i0, hi0, _, hsz, _⟩ := info_parts info66
 simp [sizeOf, typeInfo, hi0, hsz]
theorem zaB.overlaps_run {w : World} {vb g : Nat} {A B : Array Value} (la ca lb cb off : Nat) (hne : vb ≠ g) (hA : w.heap[vb]? = some (.cells A 66 (0, 0))) (hB : w.heap[g]? = some (.cells B 66 (0, 0))) (hB0 : B.size ≠ 0) :
  (callFunc 80 #[.slice (some ⟨vb, 0, none⟩) la ca, .slice (some ⟨g, off, none⟩) lb cb]).run Try.prog w = .ok (.value (.bool false)) w := by
 rw [run_callFunc_extern Try.func80 (by kernel_rfl) (by kernel_rfl) (by kernel_rfl) (e := Extern.SlicesOverlaps.overlaps #[43, 43] #[4]) (by kernel_rfl),
  apart_run 2 la ca lb cb off Try.underlying43 zaB.sizeOf50 hne hA hB hB0]
 rfl
theorem insert_list {L cs vs : List Value} {i n c : Nat} (hL : L.length = c * 2) (hcs : L.take (n * 2) = cs) (hi : i < n) (hc : n + 1 ≤ c) (hv : vs.length = 2) :
  ((L.take ((i + 1) * 2) ++ cs.drop (i * 2) ++ L.drop ((i + 1) * 2 + (cs.drop (i * 2)).length)).take (i * 2) ++ vs ++ (L.take ((i + 1) * 2) ++ cs.drop (i * 2) ++ L.drop ((i + 1) * 2 + (cs.drop (i * 2)).length)).drop (i * 2 + vs.length)).take ((n + 1) * 2) = cs.take (i * 2) ++ vs ++ cs.drop (i * 2) := by
 have hl : cs.length = n * 2 := by rw [← hcs, List.length_take, hL]; omega
 have h1 : (L.take ((i + 1) * 2)).length = (i + 1) * 2 := by rw [List.length_take, hL]; omega
 have e1 : (L.take ((i + 1) * 2) ++ cs.drop (i * 2) ++ L.drop ((i + 1) * 2 + (cs.drop (i * 2)).length)).take (i * 2) = cs.take (i * 2) := by
  rw [List.append_assoc, List.take_append_of_le_length (by omega), List.take_take, ← hcs, List.take_take]; congr 1; omega
 have e2 : (L.take ((i + 1) * 2) ++ cs.drop (i * 2) ++ L.drop ((i + 1) * 2 + (cs.drop (i * 2)).length)).drop (i * 2 + vs.length) = cs.drop (i * 2) ++ L.drop ((i + 1) * 2 + (cs.drop (i * 2)).length) := by
  rw [List.append_assoc, List.drop_append, List.drop_eq_nil_of_le (by omega), List.nil_append, show i * 2 + vs.length - (L.take ((i + 1) * 2)).length = 0 by omega, List.drop_zero]
 rw [e1, e2, ← List.append_assoc, List.take_append_of_le_length (by simp; omega), List.take_of_length_le (by simp; omega)]
set_option maxHeartbeats 4000000 in
set_option maxRecDepth 100000 in
theorem zaB.shift (w : World) (g n c i vb : Nat) (cs vs : List Value) (cur : Array Value) (hi : i < n) (hroom : n + 1 ≤ c) (hc63 : c ≤ 9223372036854775807) (hvb : vb ≠ g)
  (hg : w.heap[g]? = some (.cells cur 66 (0, 0))) (hcur : cur.size = c * 2) (hcs : cur.toList.take (n * 2) = cs) (h1 : ∀ v ∈ cs, v.oneCell' = true) (hvl : vs.length = 2) (h1v : ∀ v ∈ vs, v.oneCell' = true) (hv : w.heap[vb]? = some (.cells vs.toArray 66 (0, 0))) :
  Calls Try.prog 67 #[.slice (some ⟨g, 0, none⟩) n c, .int .i64 i, .slice (some ⟨vb, 0, none⟩) 1 1] w fun e w' => e = .returned (.slice (some ⟨g, 0, none⟩) (n + 1) c) ∧
   (∃ cur', w'.heap[g]? = some (.cells cur' 66 (0, 0)) ∧ cur'.size = c * 2 ∧ cur'.toList.take ((n + 1) * 2) = cs.take (i * 2) ++ vs ++ cs.drop (i * 2)) ∧ w.grownBy w' (some g) := by
 have hsl := Try.underlying43
 have hz2 : ((i : Int) == (n : Int)) = false := by simp; omega
 have hz2b : (i == n) = false := by simp; omega
 have hz3 : decide ((c : Int) < (n : Int) + 1) = false := decide_eq_false (by omega)
 have hz3b : decide (c < n + 1) = false := decide_eq_false (by omega)
 have hb2 : ¬ (c = i + 1) := by omega
 have hb4 : ¬ (c = i) := by omega
 have hin : i ≤ n := by omega
 have hin1 : i + 1 ≤ n + 1 := by omega
 have hw1 : IntKind.i64.wrap ((i : Int) + 1) = (i : Int) + 1 := by rw [IntKind.wrap_i64]; omega
 have hb1 : (0 : Int) ≤ (i : Int) + 1 := by omega
 have htn : ((i : Int) + 1).toNat = i + 1 := by omega
 have hb3 : (i : Int) + 1 ≤ (n : Int) + 1 := by omega
 have hb3b : (i : Int) ≤ (n : Int) := by omega
 have hb5 : (i : Int) ≤ (n : Int) + 1 := by omega
 have mixed : Try.prog.follows .mixedOrders = true := by kernel_rfl
 have hov := fun la ca lb cb off => zaB.overlaps_run la ca lb cb off hvb hv hg (by omega)
 have hinl : cs.length = n * 2 := by rw [← hcs, List.length_take, Array.length_toList, hcur]; omega
 have hdl : (cs.drop (i * 2)).length = (n - i) * 2 := by rw [List.length_drop, hinl]; omega
 have hcell : ∀ (W : World) (j : Nat) (v : Value), W.heap[g]? = some (.cells cur 66 (0, 0)) → (cs.drop (i * 2))[j]? = some v → W.cell? ((⟨g, i * 2, none⟩ : Addr).add j) = some v := fun W j v hW hj => by
  rw [Addr.add_lit, List.getElem?_drop, ← hcs, List.getElem?_take] at *
  split at hj
  ·simp [World.cell?, hW, ← hj]
  ·cases hj
 obtain ⟨r1, hr1⟩ : ∃ r1, r1 = cur.toList.take ((i + 1) * 2) ++ cs.drop (i * 2) ++ cur.toList.drop ((i + 1) * 2 + (cs.drop (i * 2)).length) := ⟨_, rfl⟩
 obtain ⟨W1, hW1⟩ : ∃ W1, W1 = w.drew.setRow g r1.toArray := ⟨_, rfl⟩
 have hcp1 : ∀ ty dc sc, (Builtin.copy_ #[43, 43] ty #[.slice (some ⟨g, (i + 1) * 2, none⟩) (n - i) dc, .slice (some ⟨g, i * 2, none⟩) (n + 1 - i) sc]).run Try.prog w.drew = .ok (goInt ((n - i : Nat))) W1 := fun ty dc sc => by
  rw [hW1, hr1]
  exact run_copy_sz w.drew _ _ ty 66 g ((i + 1) * 2) (n - i) dc ⟨g, i * 2, none⟩ (n + 1 - i) sc cur 66 (cs.drop (i * 2)) 2 (n - i) Try.underlying43 zaB.size50 (by simp only [Nat.min_def]; split <;> omega) hg hdl (fun j v hj => hcell w.drew j v hg hj) (by rw [hdl, hcur]; omega) (fun v hv => h1 v (List.mem_of_mem_drop hv))
 have hg1 : W1.heap[g]? = some (.cells r1.toArray 66 (0, 0)) := by rw [hW1]; exact setRow_heap w.drew g cur _ _ _ hg
 have hr1l : r1.length = c * 2 := by
  rw [hr1]; simp only [List.length_append, List.length_take, List.length_drop, Array.length_toList, hcur]; simp only [List.length_drop] at hdl; omega
 obtain ⟨W2, hW2⟩ : ∃ W2, W2 = W1.setRow g (r1.take (i * 2) ++ vs ++ r1.drop (i * 2 + vs.length)).toArray := ⟨_, rfl⟩
 have hv1 : W1.heap[vb]? = some (.cells vs.toArray 66 (0, 0)) := by rw [hW1, setRow_other _ _ _ _ hvb]; exact hv
 have hcp2 : ∀ ty dl dc, 1 ≤ dl → (Builtin.copy_ #[43, 43] ty #[.slice (some ⟨g, i * 2, none⟩) dl dc, .slice (some ⟨vb, 0, none⟩) 1 1]).run Try.prog W1 = .ok (goInt 1) W2 := fun ty dl dc hm => by
  rw [hW2]
  exact run_copy_sz W1 _ _ ty 66 g (i * 2) dl dc ⟨vb, 0, none⟩ 1 1 r1.toArray 66 vs 2 1 Try.underlying43 zaB.size50 (by simp only [Nat.min_def]; split <;> omega) hg1 (by omega) (fun j v hj => by rw [Addr.add_lit]; simp [World.cell?, hv1, hj]) (by rw [hvl]; simp only [List.size_toArray, hr1l]; omega) h1v
 have hw1 : IntKind.i64.wrap ((i : Int) + 1) = (i : Int) + 1 := by rw [IntKind.wrap_i64]; omega
 have hb1 : (0 : Int) ≤ (i : Int) + 1 := by omega
 have htn : ((i : Int) + 1).toNat = i + 1 := by omega
 have hb3 : (i : Int) + 1 ≤ (n : Int) + 1 := by omega
 have hb3b : (i : Int) ≤ (n : Int) := by omega
 have hb5 : (i : Int) ≤ (n : Int) + 1 := by omega
 have mixed : Try.prog.follows .mixedOrders = true := by kernel_rfl
 have hov := fun la ca lb cb off => zaB.overlaps_run la ca lb cb off hvb hv hg (by omega)
 have HW1 := zab.mk hW1
 have HR1 := zab.mk hr1
 have HW2 := zab.mk hW2
 have HCS := zab.mk hcs
 have HG := zab.mk hg
 have HG1 := zab.mk hg1
 have HRL := zab.mk hr1l
 have HDL := zab.mk hdl
 have HIL := zab.mk hinl
 have HCU := zab.mk hcur
 have hcp3 : ∀ ty dc, (Builtin.copy_ #[43, 43] ty #[.slice (some ⟨g, i * 2, none⟩) (n + 1 - i) dc, .slice (some ⟨vb, 0, none⟩) 1 1]).run Try.prog W1 = .ok (goInt 1) W2 := fun ty dc => hcp2 ty _ dc (by omega)
 clear hW1 hr1 hW2 hcs hg hg1 hr1l hdl hinl hcur hcell hcp2 h1 h1v hv hv1
 go_enter Try.func67, Try.ntmps67
 go_wp2_with (simp only [hov])
 go_region_law_o (refine step_copy_runI rfl _ _ 43 43 rfl _ _ (by simp [Act.eval, Act.put]) (by simp [Act.eval, Act.put]) (hcp1 _ _ _) ?_)
 go_wp2_with (refine wpList_copy_runI _ rfl _ _ 43 43 rfl _ _ rfl rfl (hcp3 _ _) ?_)
 go_ret
 have HL : cur.toList.length = c * 2 := by rw [Array.length_toList]; exact HCU.out
 have HLi := insert_list HL HCS.out hi hroom hvl
 rw [← HR1.out] at HLi
 refine ⟨rfl, ⟨_, by rw [HW2.out]; exact setRow_heap W1 g _ _ _ _ HG1.out, ?_, HLi⟩, ?_⟩
 ·have := HRL.out
  simp only [List.size_toArray, List.length_append, List.length_take, List.length_drop, this, hvl]; omega
 ·rw [HW2.out, HW1.out]
  exact ⟨rfl, rfl, rfl, by simp [World.setRow], fun k _ hk => by
   have hne : k ≠ g := fun e => hk (by rw [e])
   rw [setRow_other _ _ _ _ hne, setRow_other _ _ _ _ hne]; rfl⟩
theorem insert_list2 {L cs vs : List Value} {i n G : Nat} (hL : L.length = G * 2) (hcl : cs.length = n * 2) (hcs : L.take (i * 2) = cs.take (i * 2)) (hi : i < n) (hc : n + 1 ≤ G) (hv : vs.length = 2) (r1 : List Value) (hr1 : r1 = L.take (i * 2) ++ vs ++ L.drop (i * 2 + vs.length)) :
  (r1.take ((i + 1) * 2) ++ cs.drop (i * 2) ++ r1.drop ((i + 1) * 2 + (cs.drop (i * 2)).length)).take ((n + 1) * 2) = cs.take (i * 2) ++ vs ++ cs.drop (i * 2) := by
 have h1 : (L.take (i * 2) ++ vs).length = (i + 1) * 2 := by rw [List.length_append, List.length_take, hL, hv]; omega
 have e1 : r1.take ((i + 1) * 2) = cs.take (i * 2) ++ vs := by
  rw [hr1, List.take_append_of_le_length (by omega), List.take_of_length_le (by omega), hcs]
 have h2 : (cs.take (i * 2) ++ vs).length = (i + 1) * 2 := by rw [← hcs]; exact h1
 rw [e1, List.take_append_of_le_length (by rw [List.length_append, h2, List.length_drop, hcl]; omega), List.take_of_length_le (by rw [List.length_append, h2, List.length_drop, hcl]; omega)]
set_option maxHeartbeats 4000000 in
set_option maxRecDepth 100000 in
theorem zaB.grow (w : World) (g n c i vb : Nat) (cs vs : List Value) (cur : Array Value) (hi : i < n) (hnc : n ≤ c) (hroom : c < n + 1) (hbig : (n + 1) * 24 ≤ 140737488355328)
  (hg : w.heap[g]? = some (.cells cur 66 (0, 0))) (hcur : cur.size = c * 2) (hcs : cur.toList.take (n * 2) = cs) (h1 : ∀ v ∈ cs, v.oneCell' = true) (hvl : vs.length = 2) (h1v : ∀ v ∈ vs, v.oneCell' = true) (hv : w.heap[vb]? = some (.cells vs.toArray 66 (0, 0))) :
  Calls Try.prog 67 #[.slice (some ⟨g, 0, none⟩) n c, .int .i64 i, .slice (some ⟨vb, 0, none⟩) 1 1] w fun e w' => ∃ G, e = .returned (.slice (some ⟨w.heap.size, 0, none⟩) (n + 1) G) ∧ n + 1 ≤ G ∧ G ≤ maxLen ∧
   (∃ cur', w'.heap[w.heap.size]? = some (.cells cur' 66 (0, 0)) ∧ cur'.size = G * 2 ∧ cur'.toList.take ((n + 1) * 2) = cs.take (i * 2) ++ vs ++ cs.drop (i * 2)) ∧ w.grownBy w' none := by
 have hsl := Try.underlying43
 have hin0 := Try.underlying3
 have hz2 : ((i : Int) == (n : Int)) = false := by simp; omega
 have hz2b : (i == n) = false := by simp; omega
 have hz3 : decide ((c : Int) < (n : Int) + 1) = true := decide_eq_true (by omega)
 have hz3b : decide (c < n + 1) = true := decide_eq_true (by omega)
 have hb4 : ¬ (c = i) := by omega
 have hin : i ≤ n := by omega
 have hin1 : i + 1 ≤ n + 1 := by omega
 have hgw : g < w.heap.size := zaL hg
 have hvw : vb < w.heap.size := zaL hv
 have hinl : cs.length = n * 2 := by rw [← hcs, List.length_take, Array.length_toList, hcur]; omega
 have hdl : (cs.drop (i * 2)).length = (n - i) * 2 := by rw [List.length_drop, hinl]; omega
 have hcell : ∀ (W : World) (o j : Nat) (v : Value), W.heap[g]? = some (.cells cur 66 (0, 0)) → cs[o + j]? = some v → W.cell? ((⟨g, o, none⟩ : Addr).add j) = some v := fun W o j v hW hj => by
  rw [Addr.add_lit, ← hcs, List.getElem?_take] at *
  split at hj
  ·simp [World.cell?, hW, ← hj]
  ·cases hj
 obtain ⟨i0, hi0, hz0, hzs, hzb⟩ := info_parts info66
 have hold : (Builtin.firstCells i0.size i (.slice (some ⟨g, 0, none⟩) i c)).run Try.prog w.drew = .ok (cs.take (i * 2)).toArray w.drew := by
  rw [hzs]
  exact run_firstCells_some w.drew 2 i ⟨g, 0, none⟩ i c (cs.take (i * 2)) (by rw [List.length_take]; omega) (fun j v hj => by
   rw [List.getElem?_take] at hj
   split at hj
   ·exact hcell w.drew 0 j v hg (by rw [Nat.zero_add]; exact hj)
   ·cases hj)
 have hik : i + (n + 1 - i) = n + 1 := by omega
 obtain ⟨G, hG⟩ : ∃ G, G = grownCap w (n + 1) c 66 := ⟨_, rfl⟩
 obtain ⟨row, hrow⟩ : ∃ row : List Value, row = ((cs.take (i * 2)).toArray ++ Builtin.zeroCells (Value.agg #[.string ⟨#[]⟩, .int .i64 0]).cells (n + 1 - i) ++ Builtin.zeroCells (Value.agg #[.string ⟨#[]⟩, .int .i64 0]).cells (G - (n + 1))).toList := ⟨_, rfl⟩
 obtain ⟨W0, hW0⟩ : ∃ W0, W0 = w.drew.alloc (.cells row.toArray 66) := ⟨_, rfl⟩
 have hrz : ∀ ty, (Builtin.append_ #[43, 3] ty #[.slice (some ⟨g, 0, none⟩) i c, .int .i64 ((n : Int) + 1 - (i : Int))]).run Try.prog w = .ok (.slice (some ⟨w.heap.size, 0, none⟩) (n + 1) G) W0 := fun ty => by
  have h := Lib.run_append_grow_zeros w 43 3 ty 66 i0 _ .i64 .i64 Try.underlying43 Try.underlying3 hi0 hz0 (some ⟨g, 0, none⟩) i c (cs.take (i * 2)) hold (n + 1 - i) (by omega) (by omega) (by omega) (by omega) (by rw [hzb]; omega) (by rw [hzb, hik]; exact growslice_fits hroom hbig)
  rw [hik, ← hG] at h
  rw [show (n : Int) + 1 - (i : Int) = ((n + 1 - i : Nat) : Int) by omega, h, hW0, hrow, Array.toArray_toList]
 have hGn : n + 1 ≤ G := by rw [hG]; exact grownCap_ge w _ _ _
 have hGm : G ≤ maxLen := by rw [hG]; exact grownCap_le_maxLen w (n + 1) c 66 (by unfold maxLen; omega)
 have hG63 : G ≤ 9223372036854775807 := by have := hGm; unfold maxLen at this; omega
 have hrl : row.length = G * 2 := by
  rw [hrow]; simp only [Array.toList_append, List.length_append, List.length_take, Array.length_toList, size_zeroCells, hinl]
  simp [Value.cells]; omega
 have hrt : row.take (i * 2) = cs.take (i * 2) := by
  rw [hrow, Array.toList_append, Array.toList_append, List.append_assoc]
  show (cs.take (i * 2) ++ _).take _ = _
  rw [List.take_append_of_le_length (by rw [List.length_take]; omega), List.take_take, Nat.min_self]
 have hg0 : W0.heap[w.heap.size]? = some (.cells row.toArray 66 (0, 0)) := by rw [hW0]; exact heap_alloc_new w.drew _
 have hlow : ∀ k, k < w.heap.size → W0.heap[k]? = w.heap[k]? := fun k hk => by rw [hW0, Below.heap_alloc w.drew _ k hk]; rfl
 obtain ⟨r1, hr1⟩ : ∃ r1, r1 = row.take (i * 2) ++ vs ++ row.drop (i * 2 + vs.length) := ⟨_, rfl⟩
 obtain ⟨W1, hW1⟩ : ∃ W1, W1 = W0.setRow w.heap.size r1.toArray := ⟨_, rfl⟩
 have hcpA : ∀ ty dc, (Builtin.copy_ #[43, 43] ty #[.slice (some ⟨w.heap.size, i * 2, none⟩) (n + 1 - i) dc, .slice (some ⟨vb, 0, none⟩) 1 1]).run Try.prog W0 = .ok (goInt 1) W1 := fun ty dc => by
  rw [hW1, hr1]
  exact run_copy_sz W0 _ _ ty 66 w.heap.size (i * 2) (n + 1 - i) dc ⟨vb, 0, none⟩ 1 1 row.toArray 66 vs 2 1 Try.underlying43 zaB.size50 (by simp only [Nat.min_def]; split <;> omega) hg0 (by omega) (fun j v hj => by rw [Addr.add_lit]; simp [World.cell?, hlow vb hvw, hv, hj]) (by rw [hvl]; simp only [List.size_toArray, hrl]; omega) h1v
 have hg1 : W1.heap[w.heap.size]? = some (.cells r1.toArray 66 (0, 0)) := by rw [hW1]; exact setRow_heap W0 _ _ _ _ _ hg0
 have hr1l : r1.length = G * 2 := by
  rw [hr1]; simp only [List.length_append, List.length_take, List.length_drop, hrl, hvl]; omega
 have hgg : W1.drew.heap[g]? = some (.cells cur 66 (0, 0)) := by
  show W1.heap[g]? = _
  rw [hW1, setRow_other _ _ _ _ (by omega), hlow g hgw]; exact hg
 obtain ⟨W2, hW2⟩ : ∃ W2, W2 = W1.drew.setRow w.heap.size (r1.take ((i + 1) * 2) ++ cs.drop (i * 2) ++ r1.drop ((i + 1) * 2 + (cs.drop (i * 2)).length)).toArray := ⟨_, rfl⟩
 have hcpB : ∀ ty dc sc, (Builtin.copy_ #[43, 43] ty #[.slice (some ⟨w.heap.size, (i + 1) * 2, none⟩) (n - i) dc, .slice (some ⟨g, i * 2, none⟩) (n - i) sc]).run Try.prog W1.drew = .ok (goInt ((n - i : Nat))) W2 := fun ty dc sc => by
  rw [hW2]
  exact run_copy_sz W1.drew _ _ ty 66 w.heap.size ((i + 1) * 2) (n - i) dc ⟨g, i * 2, none⟩ (n - i) sc r1.toArray 66 (cs.drop (i * 2)) 2 (n - i) Try.underlying43 zaB.size50 (by simp only [Nat.min_def]; split <;> omega) hg1 hdl (fun j v hj => hcell _ (i * 2) j v hgg (by rwa [List.getElem?_drop] at hj)) (by rw [hdl]; simp only [List.size_toArray, hr1l]; omega) (fun v hv => h1 v (List.mem_of_mem_drop hv))
 have hw1 : IntKind.i64.wrap ((i : Int) + 1) = (i : Int) + 1 := by rw [IntKind.wrap_i64]; omega
 have hb1 : (0 : Int) ≤ (i : Int) + 1 := by omega
 have htn : ((i : Int) + 1).toNat = i + 1 := by omega
 have hb3 : (i : Int) + 1 ≤ (n : Int) + 1 := by omega
 have hb3b : (i : Int) ≤ (n : Int) := by omega
 have hb5 : (i : Int) ≤ (n : Int) + 1 := by omega
 have hGi : ¬ (G = i) := by omega
 have hGi1 : ¬ (G = i + 1) := by omega
 have mixed : Try.prog.follows .mixedOrders = true := by kernel_rfl
 have HW0 := zab.mk hW0
 have HW1 := zab.mk hW1
 have HR1 := zab.mk hr1
 have HW2 := zab.mk hW2
 have HG := zab.mk hg
 have HG1 := zab.mk hg1
 have HRL := zab.mk hr1l
 have HRT := zab.mk hrt
 have HROW := zab.mk hrl
 have HDL := zab.mk hdl
 have HIL := zab.mk hinl
 have HGN := zab.mk hGn
 have HGM := zab.mk hGm
 have HLO := zab.mk hlow
 clear hW0 hW1 hr1 hW2 hcs hg hg1 hr1l hdl hinl hcur hcell h1 h1v hv hold hik hG hrow hGn hGm hrl hrt hg0 hlow hgg hi0 hz0 hzs hzb hgw hvw
 go_enter Try.func67, Try.ntmps67
 go_wp2_with (first | (at_builtin; refine Lib.wpList_append_run _ rfl _ _ _ _ rfl _ _ rfl rfl _ _ (hrz _) ?_) | (refine wpList_copy_runI _ rfl _ _ 43 43 rfl _ _ rfl rfl (hcpA _ _) ?_))
 go_region_law_o (refine step_copy_runI rfl _ _ 43 43 rfl (.slice (some ⟨w.heap.size, (i + 1) * 2, none⟩) (n - i) (G - (i + 1))) (.slice (some ⟨g, i * 2, none⟩) (n - i) (c - i)) (by simp [Act.eval, Act.put]) (by simp [Act.eval, Act.put]) (hcpB _ _ _) ?_)
 go_wp2
 go_ret
 have HLi := insert_list2 HROW.out HIL.out HRT.out hi HGN.out hvl r1 HR1.out
 refine ⟨G, rfl, HGN.out, HGM.out, ⟨_, by rw [HW2.out]; exact setRow_heap W1.drew _ _ _ _ _ HG1.out, ?_, HLi⟩, ?_⟩
 ·have h1 := HRL.out; have h2 := HDL.out; have h3 := HGN.out
  simp only [List.size_toArray, List.length_append, List.length_take, h2, h1]; rw [List.length_drop, h1]; omega
 ·rw [HW2.out, HW1.out]
  refine ⟨by rw [HW0.out]; rfl, by rw [HW0.out]; rfl, by rw [HW0.out]; rfl, ?_, fun k hlt _ => ?_⟩
  ·rw [HW0.out]; simp [World.setRow]
  ·have hne : k ≠ w.heap.size := by omega
   rw [setRow_other _ _ _ _ hne]
   show (W0.setRow _ _).heap[k]? = _
   rw [setRow_other _ _ _ _ hne]
   exact HLO.out k hlt
set_option maxHeartbeats 4000000 in
set_option maxRecDepth 100000 in
theorem zaB.ended (W : World) (base : Nat) (ok : Nat → Prop) (v : Value) (ns : List S66) (x : S66) (HO : k66.R 66 W base ok v ns) (hfresh : ∀ k, W.heap.size ≤ k → ok k) (hbase : base ≤ W.heap.size) (hl : (ns.length + 1) * 24 ≤ 140737488355328) :
  Calls Try.prog 67 #[v, .int .i64 ns.length, .slice (some ⟨W.heap.size, 0, none⟩) 1 1] (W.alloc (.cells #[.string x.f0, .int .i64 x.f1] 66)) fun e w' => ∃ v1, e = .returned v1 ∧ k66.R 66 w' base ok v1 (ns ++ [x]) ∧ W.grownBy w' v.ownBlock ∧ (v1.ownBlock = v.ownBlock ∨ ∃ b, v1.ownBlock = some b ∧ W.heap.size ≤ b) := by
 have hsl := Try.underlying43
 have HH := zab.mk HO
 obtain ⟨A, c, rfl⟩ := Kd.zcp HO
 obtain ⟨_, hnc, _⟩ := Kd.zbt HO
 have hin : ns.length ≤ 9223372036854775807 := by omega
 have HF := zab.mk hfresh
 clear HO hfresh
 go_enter Try.func67, Try.ntmps67
 go_wp2_with (first | (at_builtin; refine Kd.R_append k66 (w0 := W) base rfl (.tmp 23) (.tmp 24) 43 66 (.agg #[.string ⟨#[]⟩, .int .i64 0]) 24 rfl Try.underlying43 info66 rfl (by decide) (by omega) (.slice A ns.length c) ns x [.string x.f0, .int .i64 x.f1] ok (fun _ => False) rfl rfl (k66_mkM _ _ _ x) (fun _ hk => hk.elim) HF.out HH.out (Below.refl _ _) hbase hl ?_; intro v1 w2 hr2 hb2 hg2 hat; have HR2 := zab.mk hr2; have HG2 := zab.mk hg2; have HAT := zab.mk hat; clear hr2 hb2 hg2 hat))
 all_goals go_ret
 all_goals first | exact ⟨_, rfl, HR2.out, HG2.out, HAT.out⟩ | (cases A <;> exact ⟨_, rfl, HR2.out, HG2.out, HAT.out⟩)
theorem zaB.calls (W : World) (base : Nat) (ok : Nat → Prop) (v : Value) (ns : List S66) (x : S66) (i : Nat) (hi : i ≤ ns.length) (HO : k66.R 66 W base ok v ns) (hfresh : ∀ k, W.heap.size ≤ k → ok k) (hbase : base ≤ W.heap.size) (hl : (ns.length + 1) * 24 ≤ 140737488355328) :
  Calls Try.prog 67 #[v, .int .i64 i, .slice (some ⟨W.heap.size, 0, none⟩) 1 1] (W.alloc (.cells #[.string x.f0, .int .i64 x.f1] 66)) fun e w' => ∃ v1, e = .returned v1 ∧ k66.R 66 w' base ok v1 (ns.take i ++ x :: ns.drop i) ∧ W.grownBy w' v.ownBlock ∧ (v1.ownBlock = v.ownBlock ∨ ∃ b, v1.ownBlock = some b ∧ W.heap.size ≤ b) := by
 rcases Nat.lt_or_ge i ns.length with hlt | hge
 ·obtain ⟨h0, inner, ⟨hil, hown⟩, hrep⟩ := HO
  have hil2 : inner.length = ns.length * 2 := hil
  rcases hown with ⟨_, hn⟩ | ⟨g, cap, cur, rfl, hb, hg, hnc, hcm, hcs, ht⟩
  ·omega
  have hgW := zaL hg
  have hown' : (Value.slice (some ⟨g, 0, none⟩) ns.length cap).ownBlock = some g := rfl
  have ha : (W.alloc (.cells #[.string x.f0, .int .i64 x.f1] 66)).heap[g]? = some (.cells cur 66 (0, 0)) := by rw [Below.heap_alloc _ _ _ hgW]; exact hg
  have hv := heap_alloc_new W (.cells #[.string x.f0, .int .i64 x.f1] 66)
  have h1 : ∀ u ∈ inner, u.oneCell' = true := Kd.reps_one hrep (by decide) (fun p c hp => by rw [k66_openM hp]; intro u hu; simp only [List.mem_cons, List.not_mem_nil, or_false] at hu; rcases hu with rfl | rfl <;> rfl)
  have h1v : ∀ u ∈ [Value.string x.f0, .int .i64 x.f1], u.oneCell' = true := by intro u hu; simp only [List.mem_cons, List.not_mem_nil, or_false] at hu; rcases hu with rfl | rfl <;> rfl
  have hre : ∀ (w' : World) (ok' : Nat → Prop), Reps (k66.M w' base ok') 2 (ns.take i ++ x :: ns.drop i) (inner.take (i * 2) ++ [Value.string x.f0, .int .i64 x.f1] ++ inner.drop (i * 2)) := fun w' ok' => by
   have hrep' : Reps (k66.M w' base ok') 2 ns inner := hrep.imp_ (fun p c hp => by rw [k66_openM hp]; exact k66_mkM _ _ _ p)
   have h2 := (Kd.reps_take (m := i) hrep' (by omega)).snoc (k66_mkM w' base ok' x) rfl
   have h3 := Kd.reps_append h2 (Kd.reps_drop (m := i) hrep')
   rwa [List.append_assoc, List.singleton_append] at h3
  have hlen : (ns.take i ++ x :: ns.drop i).length = ns.length + 1 := by simp; omega
  have hlen2 : (inner.take (i * 2) ++ [Value.string x.f0, .int .i64 x.f1] ++ inner.drop (i * 2)).length = (ns.length + 1) * 2 := by simp; omega
  rcases Nat.lt_or_ge ns.length cap with hroom | hfull
  ·refine (zaB.shift (W.alloc (.cells #[.string x.f0, .int .i64 x.f1] 66)) g ns.length cap i W.heap.size inner [.string x.f0, .int .i64 x.f1] cur hlt hroom (by unfold maxLen at hcm; omega) (by omega) ha hcs ht h1 rfl h1v hv).mono ?_
   rintro e w' ⟨rfl, ⟨cur', hc1, hc2, hc3⟩, hgr⟩
   have hgr2 := (World.grownBy_alloc W (.cells #[.string x.f0, .int .i64 x.f1] 66) (some g)).trans hgr
   refine ⟨_, rfl, ⟨fun k hk => ?_, _, ⟨by rw [hlen2, hlen]; rfl, .inr ⟨g, cap, cur', by rw [hlen], hb, hc1, by rw [hlen]; omega, hcm, hc2, by rw [hlen]; exact hc3⟩⟩, hre _ _⟩, hgr2, .inl rfl⟩
   exact h0 k hk
  ·refine (zaB.grow (W.alloc (.cells #[.string x.f0, .int .i64 x.f1] 66)) g ns.length cap i W.heap.size inner [.string x.f0, .int .i64 x.f1] cur hlt hnc (by omega) hl ha hcs ht h1 rfl h1v hv).mono ?_
   have hsz : (W.alloc (.cells #[.string x.f0, .int .i64 x.f1] 66)).heap.size = W.heap.size + 1 := World.size_alloc _ _
   rw [hsz]
   rintro e w' ⟨G, rfl, hG1, hG2, ⟨cur', hc1, hc2, hc3⟩, hgr⟩
   have hgr2 := (World.grownBy_alloc W (.cells #[.string x.f0, .int .i64 x.f1] 66) (some g)).trans (hgr.but (some g))
   refine ⟨_, rfl, ⟨fun k hk => hfresh k ?_, _, ⟨by rw [hlen2, hlen]; rfl, .inr ⟨W.heap.size + 1, G, cur', by rw [hlen], by omega, hc1, by rw [hlen]; omega, hG2, hc2, by rw [hlen]; exact hc3⟩⟩, hre _ _⟩, hgr2, .inr ⟨W.heap.size + 1, rfl, by omega⟩⟩
   have : k = W.heap.size + 1 := (Option.some.inj hk).symm
   omega
 ·obtain rfl : i = ns.length := by omega
  rw [List.take_of_length_le (Nat.le_refl _), List.drop_eq_nil_of_le (Nat.le_refl _)]
  exact zaB.ended W base ok v ns x HO hfresh hbase hl
theorem slice_any {α : Type} {d : Kd α} {e : Nat} {w : World} {base : Nat} {ok : Nat → Prop} {v : Value} {xs : List α} (h : d.R e w base ok v xs) : ∃ A m c, v = .slice A m c := by
 obtain ⟨A, c, e⟩ := Kd.zcp h
 exact ⟨A, _, c, e⟩
theorem named_anew {w2 : World} {base g c : Nat} {ok : Nat → Prop} {l : List S45} (hS : Kd.S k45 45 w2 base ok (.slice (some ⟨g, 0, none⟩) l.length c) l) (x : Int) (h0 : 0 ≤ x) (h1 : x < (l.length : Int)) :
  ∃ (oki : Nat → Prop) (v2 : Value), w2.cell? ⟨g, x.toNat * 6 + 2, none⟩ = some v2 ∧ k66.R 66 w2 base oki v2 (zaf l x).f2 ∧ (∀ k, oki k → ok k ∧ k ≠ g) ∧ ok g ∧ g < w2.heap.size ∧ base ≤ g ∧
   ∀ (w3 : World) (v2' : Value) (ns' : List S66), w2.grownBy w3 v2.ownBlock → k66.R 66 w3 base (fun k => oki k ∨ (ok k ∧ w2.heap.size ≤ k)) v2' ns' →
    (∀ j, w3.frozen? ⟨g, j, none⟩ = false) ∧ (∃ u, w3.cell? ⟨g, x.toNat * 6 + 2, none⟩ = some u) ∧ (∃ u, (w3.setCell ⟨g, x.toNat * 6 + 2, none⟩ v2').cell? ⟨g, x.toNat * 6 + 5, none⟩ = some u) ∧ (∀ j, (w3.setCell ⟨g, x.toNat * 6 + 2, none⟩ v2').frozen? ⟨g, j, none⟩ = false) ∧
    ∀ now : Int, Kd.S k45 45 ((w3.setCell ⟨g, x.toNat * 6 + 2, none⟩ v2').setCell ⟨g, x.toNat * 6 + 5, none⟩ (.int .i64 now)) base ok (.slice (some ⟨g, 0, none⟩) l.length c) (l.set x.toNat { zaf l x with f2 := ns', f5 := now }) := by
 obtain ⟨oki, cs, hcl, hM, hcc, hoki, hH⟩ := Kd.S_lend hS (⟨0, [], [], ⟨#[]⟩, 0, 0⟩ : S45) x h0 h1
 obtain ⟨g', cap', e', hbg, hgl, cells, hgb⟩ := Kd.S_form hS (by omega)
 injection e' with e1 _ _
 injection e1 with e1
 injection e1 with e1
 subst e1
 obtain ⟨v1, v2, rfl, hR1, hR2⟩ := k45_openM hM
 have hc2 := hcc 2 v2 rfl
 refine ⟨oki, v2, hc2, hR2, hoki, (Kd.S_R hS).1 g rfl, hgl, hbg, fun w3 v2' ns' hg hR3 => ?_⟩
 have hne : some g ≠ v2.ownBlock := fun e => (hoki g (hR2.1 g e.symm)).2 rfl
 have hgb3 := zbk hgb hg hne
 have hH3 := Kd.H_grown (Kd.H_widen hH) hg (fun k hk => .inl (hR2.1 k hk))
 have hR13 : (Kd.int .u8).R 5 w3 base (fun k => oki k ∨ (ok k ∧ w2.heap.size ≤ k)) v1 (zaf l x).f1 := Kd.zbM (Kd.R_over' hR1 (Kd.R_typed hR2) (by decide) hg) (fun k hk => .inl hk)
 have hseg1 := (Kd.H_seg hH3 h0 h1 (seg := [v2']) (j := 2) (by show 2 + 1 ≤ 6; omega) (fun q hq => by rw [List.mem_singleton.1 hq]; exact (Kd.R_val hR3).2)).1
 have hsz := hH3
 have hcell2 : ∃ u, w3.cell? ⟨g, x.toNat * 6 + 2, none⟩ = some u := ⟨v2, by rw [World.cell?_of_block (hg.block g hgl hne)]; exact hc2⟩
 have hcell5 : ∃ u, (w3.setCell ⟨g, x.toNat * 6 + 2, none⟩ v2').cell? ⟨g, x.toNat * 6 + 5, none⟩ = some u := by
  obtain ⟨rows, _, _, _, _, hc5, _⟩ := Kd.H_raw hseg1 h0 h1
  exact ⟨_, hc5 5 _ rfl⟩
 refine ⟨fun j => zae hgb3 j, hcell2, hcell5, fun j => zae (blk_set hgb3 _ _) j, fun now => ?_⟩
 have hseg2 := (Kd.H_seg hseg1 h0 h1 (seg := [.int .i64 now]) (j := 5) (by show 5 + 1 ≤ 6; omega) (fun q hq => by rw [List.mem_singleton.1 hq]; rfl)).1
 have hb1 := blk_set hgb3 (x.toNat * 6 + 2) v2'
 refine Kd.H_back hseg2 (x' := { zaf l x with f2 := ns', f5 := now }) (okp := fun k => oki k ∨ (ok k ∧ w2.heap.size ≤ k)) ?_ (fun _ hk => hk)
 refine k45_mkM _ _ _ { zaf l x with f2 := ns', f5 := now } ?_ ?_
 ·exact Kd.R_set (Kd.R_set hR13 hgb3 (by decide) _ _) hb1 (by decide) _ _
 ·exact Kd.R_set (Kd.R_set hR3 hgb3 (by decide) _ _) hb1 (by decide) _ _
def zbz (w : World) (A : Option Addr) (n c : Nat) : World := (w.alloc (.cells #[.slice A n c] 24)).alloc (.cells #[.slice none 0 0] 24)
theorem treeW_below (w : World) (A : Option Addr) (n c : Nat) : Below w.heap.size w (zbz w A n c) := zac (zac (Below.refl _ _) _) _
theorem zbs {w w' : World} {A : Option Addr} {n c : Nat} (h : Below (zbz w A n c).heap.size (zbz w A n c) w') : w'.heap[w.heap.size]? = some (.cells #[.slice A n c] 24 (0, 0)) ∧ w'.heap[w.heap.size + 1]? = some (.cells #[.slice none 0 0] 24 (0, 0)) := by
 have hs : (w.alloc (.cells #[.slice A n c] 24)).heap.size = w.heap.size + 1 := World.size_alloc _ _
 have h2 : (zbz w A n c).heap.size = w.heap.size + 1 + 1 := by show ((w.alloc _).alloc _).heap.size = _; rw [World.size_alloc, hs]
 constructor
 ·exact (h.block w.heap.size (by omega)).trans (zaj (zbp w _) _)
 ·refine (h.block (w.heap.size + 1) (by omega)).trans ?_
  rw [← hs]; exact zbp _ _
theorem zbd {w w' : World} {A : Option Addr} {n c : Nat} (h : Below (zbz w A n c).heap.size (zbz w A n c) w') : w'.cell? ⟨w.heap.size, 0, none⟩ = some (.slice A n c) := (zah (zbs h).1 0).trans rfl
theorem one6 (a b c : Int) (t : ByteArray) : ∀ q ∈ [Value.int .i64 a, .slice none 0 0, .slice none 0 0, .string t, .int .i64 b, .int .i64 c], q.oneCell' = true := by
 intro q hq; simp only [List.mem_cons, List.not_mem_nil, or_false] at hq; rcases hq with rfl | rfl | rfl | rfl | rfl | rfl <;> rfl
theorem boxed {w W : World} {x v v12 : Value} {l : List S45} {ok : Nat → Prop} (h6 : W.heap[w.heap.size]? = some (.cells #[x] 24 (0, 0))) (h12 : W.heap[w.heap.size + 1]? = some (.cells #[v12] 24 (0, 0))) (HB : Below w.heap.size w W) (HS : Kd.S k45 45 W w.heap.size ok v l) :
  (W.setCell ⟨w.heap.size, 0, none⟩ v).heap[w.heap.size]? = some (.cells #[v] 24 (0, 0)) ∧ (W.setCell ⟨w.heap.size, 0, none⟩ v).heap[w.heap.size + 1]? = some (.cells #[v12] 24 (0, 0)) ∧ Kd.S k45 45 (W.setCell ⟨w.heap.size, 0, none⟩ v) w.heap.size ok v l ∧ Below w.heap.size w (W.setCell ⟨w.heap.size, 0, none⟩ v) :=
 ⟨zaU h6 0 v rfl, zaV h12 (p := ⟨w.heap.size, 0, none⟩) (by simp) v, Kd.S_set HS h6 (by decide) 0 _, HB.setCell (p := ⟨w.heap.size, 0, none⟩) (Nat.le_refl _) _⟩
theorem links_anew {W : World} {base g c : Nat} {ok : Nat → Prop} {l : List S45} (hS : Kd.S k45 45 W base ok (.slice (some ⟨g, 0, none⟩) l.length c) l) (x : Int) (h0 : 0 ≤ x) (h1 : x < (l.length : Int)) :
  W.cell? ⟨g, x.toNat * 6 + 4, none⟩ = some (.int .i64 (zaf l x).f4) ∧ W.frozen? ⟨g, x.toNat * 6 + 4, none⟩ = false ∧ ok g ∧ base ≤ g ∧ g < W.heap.size ∧
   ∀ m : Int, Kd.S k45 45 (W.setCell ⟨g, x.toNat * 6 + 4, none⟩ (.int .i64 m)) base ok (.slice (some ⟨g, 0, none⟩) l.length c) (l.set x.toNat { zaf l x with f4 := m }) := by
 obtain ⟨oki, cs, hcl, hM, hcc, hoki, hH⟩ := Kd.S_lend hS z45 x h0 h1
 obtain ⟨g', cap', e', hbg, hgl, cells, hgb⟩ := Kd.S_form hS (by omega)
 injection e' with e1 _ _
 injection e1 with e1
 injection e1 with e1
 subst e1
 obtain ⟨v1, v2, rfl, hR1, hR2⟩ := k45_openM hM
 refine ⟨hcc 4 _ rfl, zae hgb _, (Kd.S_R hS).1 g rfl, hbg, hgl, fun m => ?_⟩
 have hseg := (Kd.H_seg hH h0 h1 (seg := [.int .i64 m]) (j := 4) (by show 4 + 1 ≤ 6; omega) (fun q hq => by rw [List.mem_singleton.1 hq]; rfl)).1
 refine Kd.H_back hseg (x' := { zaf l x with f4 := m }) (okp := oki) ?_ (fun _ hk => hk)
 exact k45_mkM _ _ _ { zaf l x with f4 := m } (Kd.R_set hR1 hgb (by decide) _ _) (Kd.R_set hR2 hgb (by decide) _ _)
def addN (l : List S45) (dir : Int) (s : ByteArray) (node now : Int) : List S45 :=
 l.set dir.toNat { zaf l dir with f2 := (zaf l dir).f2.take (bs (zaf l dir).f2 s) ++ ⟨s, node⟩ :: (zaf l dir).f2.drop (bs (zaf l dir).f2 s), f5 := now }
set_option maxHeartbeats 4000000 in
set_option maxRecDepth 100000 in
theorem tree_add.calls (W : World) (base g c : Nat) (ok : Nat → Prop) (l : List S45) (dir : Int) (s : ByteArray) (node now : Int) (hS : Kd.S k45 45 W base ok (.slice (some ⟨g, 0, none⟩) l.length c) l) (h0 : 0 ≤ dir) (h1 : dir < (l.length : Int)) (hfresh : ∀ k, W.heap.size ≤ k → ok k) (hbase : base ≤ W.heap.size) (hl : ((zaf l dir).f2.length + 1) * 24 ≤ 140737488355328) (hbs : bs (zaf l dir).f2 s ≤ (zaf l dir).f2.length) :
  Calls Try.prog 52 #[.agg #[.slice (some ⟨g, 0, none⟩) l.length c], .int .i64 dir, .string s, .int .i64 node, .int .i64 now] W fun e w' => e = .returned (.tuple #[]) ∧ Kd.S k45 45 w' base ok (.slice (some ⟨g, 0, none⟩) l.length c) (addN l dir s node now) ∧ Below base W w' ∧ (∀ k, k < W.heap.size → ¬ ok k → w'.heap[k]? = W.heap[k]?) := by
 have hut := Try.underlying24
 have hun := Try.underlying45
 have hum := Try.underlying66
 obtain ⟨_, hlc, hC⟩ := Kd.zce hS
 have hpl : zaW.f l dir s = some ((bs (zaf l dir).f2 s : Int), bsAt (zaf l dir).f2 s) := by
  unfold zaW.f
  rw [if_pos h0, if_pos h1, if_pos (by omega)]
 have HS := zab.mk hS
 have HCC := zab.mk hC
 have HPL := zab.mk hpl
 have HFR := zab.mk hfresh
 have HLC := zab.mk hlc
 have p0 := eq_true h0
 have p1 := eq_true h1
 clear hS hC hpl hfresh hlc
 go_enter Try.func52, Try.ntmps52
 go_wp2_with (first | (go_at_call 66; refine (zaW.calls (some ⟨g, 0, none⟩) c l dir s _ _ _ (Kd.C_below HCC.out (zac (Below.refl _ _) _)) HLC.out HPL.out).mono ?_; rintro e w2 ⟨rfl, hb⟩; have HB := zab.mk hb; have hct := (zah (zas (zbp W (.cells #[.slice (some ⟨g, 0, none⟩) l.length c] 24)) hb) 0).trans rfl; have HB2 := zab.mk ((zak (zac (Below.refl W.heap.size W) _) hb).mono hbase); have hb2 := Nat.le_trans hbase HB2.out.size; have HO2 := zab.mk (fun k (hk : k < W.heap.size) => (zak (zac (Below.refl W.heap.size W) _) hb).block k hk); have hsz2 := (zak (zac (Below.refl W.heap.size W) _) hb).size; obtain ⟨oki, v2, hc2, hR2, hoki, hokg, hgl, hbg, HK⟩ := named_anew (Kd.zco HS.out (zak (zac (Below.refl _ _) _) hb)) dir h0 h1; have HR2 := zab.mk hR2; have HOK := zab.mk hoki; have HOG := zab.mk hokg; clear hokg; have HKK := zab.mk HK; have HFR2 := zab.mk (fun k (hk : w2.heap.size ≤ k) => HFR.out k (Nat.le_trans (zak (zac (Below.refl W.heap.size W) _) hb).size hk)); clear hb hR2 HK hoki) | (go_at_call 67; refine (zaB.calls w2 base (fun k => oki k ∨ (ok k ∧ w2.heap.size ≤ k)) v2 _ ⟨s, node⟩ (bs (zaf l dir).f2 s) hbs (Kd.zbM HR2.out (fun _ hk => .inl hk)) (fun k hk => .inr ⟨HFR2.out k hk, hk⟩) hb2 hl).mono ?_; rintro e w3 ⟨v3, rfl, hR3, hg3, hat⟩; obtain ⟨A3, m3, c3, rfl⟩ := slice_any hR3; obtain ⟨hf, ⟨u2, hu2⟩, ⟨u5, hu5⟩, hf5, HFin⟩ := HKK.out w3 _ _ hg3 hR3; have HF := zab.mk HFin; have HB3 := zab.mk (HB2.out.grown hg3 hb2 (Kd.R_base HR2.out)); have HO3 := zab.mk (fun k (hk : k < W.heap.size) (hn : ¬ ok k) => (hg3.block k (Nat.lt_of_lt_of_le hk hsz2) (fun e => hn (HOK.out k (HR2.out.1 k e.symm)).1)).trans (HO2.out k hk)); clear hR3 hg3 hat HFin))
 go_end0
 exact ⟨rfl, HF.out now, (HB3.out.setCell hbg _).setCell hbg _, fun k hk hn => ((Below.heap_setCell _ _ _ k (fun e => hn (e ▸ HOG.out))).trans (Below.heap_setCell _ _ _ k (fun e => hn (e ▸ HOG.out)))).trans (HO3.out k hk hn)⟩
def makeR (k : Nat) (l : List S45) (dir : Int) (s : ByteArray) (kind : Int) (target : ByteArray) : Option (Int × Int) :=
 (za7.f k l).bind fun n => (zaX.f k kind target).bind fun b => (zbw.f k l dir s b).bind fun e => some (if e = 0 then (if n = 64 then 51 else 0) else e, n)
def makeP (k : Nat) (l : List S45) (dir : Int) (kind : Int) (target : ByteArray) (now : Int) : Option Bool :=
 (za6.f k l [dir]).bind fun m => if m = true then (za2.f now).bind fun tm => some (tm && (decide (1 ≤ kind) && (decide (kind ≤ 3) && (kind == 3 || target.toList == ([] : List UInt8))))) else some false
def makeE (k : Nat) (l : List S45) (dir : Int) (s : ByteArray) (kind : Int) (target : ByteArray) (now : Int) : Option (Int × Int) :=
 (makeP k l dir kind target now).bind fun p => if p = true then makeR k l dir s kind target else some (100, 0)
theorem makeR_mono (l : List S45) (dir : Int) (s : ByteArray) (kind : Int) (target : ByteArray) (k : Nat) : LeO (makeR k l dir s kind target) (makeR (k + 1) l dir s kind target) :=
 LeO.bind (za7.mono _ _) fun _ => LeO.bind (zaX.mono _ _ _) fun _ => LeO.bind (zbw.mono _ _ _ _ _) fun _ => LeO.refl _
theorem makeE_mono (l : List S45) (dir : Int) (s : ByteArray) (kind : Int) (target : ByteArray) (now : Int) (k : Nat) : LeO (makeE k l dir s kind target now) (makeE (k + 1) l dir s kind target now) :=
 LeO.bind (LeO.bind (za6.mono _ _ _) fun _ => LeO.refl _) fun _ => LeO.ite (makeR_mono _ _ _ _ _ _) (LeO.refl _)
def zbr (u : List S45) (n : Int) (kind : Int) (target : ByteArray) (now : Int) : List S45 :=
 (if n = (u.length : Int) then u ++ [z45] else u).set n.toNat ⟨kind, [], [], target, 1, now⟩
def makeD (u2 : List S45) (dir : Int) (s : ByteArray) (n now : Int) : Option (List S45) :=
 if 0 ≤ dir ∧ dir < (u2.length : Int) ∧ (zaf u2 dir).f2.length ≤ 1000000 ∧ bs (zaf u2 dir).f2 s ≤ (zaf u2 dir).f2.length then some (addN u2 dir s n now) else none
def zbo.f (k : Nat) (l0_0 : List S45) (a1 : Int) (a2 : ByteArray) (a3 : Int) (a4 : ByteArray) (a5 : Int) : Option (List S45 × Int × Int) :=
 (makeE k l0_0 a1 a2 a3 a4 a5).bind fun q => if q.1 = 0 then (zaS.f k l0_0).bind fun u => (if 0 ≤ q.2 ∧ q.2 ≤ (u.length : Int) ∧ u.length ≤ 1000000 then (makeD (zbr u q.2 a3 a4 a5) a1 a2 q.2 a5).bind fun r => some (r, q.2, 0) else none) else (zaR.f k l0_0 q.1).bind fun b => some (b.1, 0, b.2)
theorem zbo.mono : ∀ a0 a1 a2 a3 a4 a5 k, LeO (zbo.f k a0 a1 a2 a3 a4 a5) (zbo.f (k + 1) a0 a1 a2 a3 a4 a5) := fun _ _ _ _ _ _ _ =>
 LeO.bind (makeE_mono _ _ _ _ _ _ _) fun _ => LeO.ite (LeO.bind (zaS.mono _ _) fun _ => LeO.refl _) (LeO.bind (zaR.mono _ _ _) fun _ => LeO.refl _)
set_option maxHeartbeats 8000000 in
set_option maxRecDepth 100000 in
theorem zbo.calls (k : Nat) (A0_0 : Option Addr) (c0_0 : Nat) (l0_0 : List S45) (a1 : Int) (a2 : ByteArray) (a3 : Int) (a4 : ByteArray) (a5 : Int) (r1 : List S45) (r2 : Int) (r3 : Int) (w : World) (hr0_0 : Kd.C k45 w A0_0 l0_0.length l0_0) (hc0_0 : l0_0.length ≤ c0_0) (h : zbo.f k l0_0 a1 a2 a3 a4 a5 = some (r1, r2, r3)) :
  Calls Try.prog 26 #[.agg #[.slice A0_0 l0_0.length c0_0], .int .i64 a1, .string a2, .int .i64 a3, .string a4, .int .i64 a5] w fun e w' => ∃ v0_ : Value, e = .returned (.tuple #[.agg #[v0_], .int .i64 r2, .int .i64 r3]) ∧ Kd.S k45 45 w' w.heap.size (fun _ => True) v0_ r1 ∧ Below w.heap.size w w' := by
 obtain ⟨⟨e, n⟩, hE, h⟩ := Option.bind_eq_some_iff.mp h
 have HR := zab.mk hr0_0
 have HC := zab.mk hc0_0
 have HE := zab.mk hE
 have HH := zab.mk h
 have hut := Try.underlying24
 have hun := Try.underlying45
 have hsi := Try.underlying88
 have HW := zab.mk (treeW_below w A0_0 l0_0.length c0_0)
 have HW0 := zab.mk (Below.refl (zbz w A0_0 l0_0.length c0_0).heap.size (zbz w A0_0 l0_0.length c0_0))
 clear hr0_0 hc0_0 hE h
 go_enter Try.func26, Try.ntmps26
 obtain ⟨p, hP, hE2⟩ := Option.bind_eq_some_iff.mp HE.out
 have HP := zab.mk hP
 have HE2 := zab.mk hE2
 clear hP hE2 HE
 go_upto_region 3 with (fail)
 go_cut [40] (fun v40 wc => v40 = .bool p ∧ zab (Below (zbz w A0_0 l0_0.length c0_0).heap.size (zbz w A0_0 l0_0.length c0_0) wc))
 case first =>
  have hmm := HP.out
  clear HH HE2 HP
  unfold makeP at hmm
  obtain ⟨m, hm, hmm⟩ := Option.bind_eq_some_iff.mp hmm
  have HM := zab.mk hm
  have HD := zab.mk (Kd.zbt (R_of_blk (xs := [a1]) (k := .i64) (base := 0) (zbp (zbz w A0_0 l0_0.length c0_0) (.cells #[.int .i64 a1] 3)) (Nat.zero_le _) (by simp))).2.2
  have hWs : (zbz w A0_0 l0_0.length c0_0).heap.size = w.heap.size + 1 + 1 := by show ((w.alloc _).alloc _).heap.size = _; rw [World.size_alloc, World.size_alloc]
  rw [hWs] at HD
  clear hm hWs
  cases m with
  | false =>
   obtain rfl := Option.some.inj (show some false = some p from hmm)
   clear hmm
   go_wp2_with (first | (go_at_call 40; refine (za6.calls k A0_0 c0_0 l0_0 (some ⟨w.heap.size + 1 + 1, 0, none⟩) 1 [a1] false _ (Kd.C_below HR.out (by repeat (first | exact HW.out | exact Below.refl _ _ | apply zac | apply zaa | apply zad | apply zaM))) HC.out HD.out (by simp) HM.out).mono ?_; rintro e' w1 ⟨rfl, hb⟩; have HB1 := zab.mk (zak (zac HW0.out _) hb); clear hb))
   go_meet
   case rel => exact ⟨rfl, HB1⟩
  | true =>
   obtain ⟨tm, ht, hmm⟩ := Option.bind_eq_some_iff.mp (show ((za2.f a5).bind fun tm => some (tm && (decide (1 ≤ a3) && (decide (a3 ≤ 3) && (a3 == 3 || a4.toList == ([] : List UInt8)))))) = some p from hmm)
   have HT := zab.mk ht
   have HPP := zab.mk (Option.some.inj hmm)
   clear ht hmm
   cases tm with
   | false =>
    have HV := zab.mk (show p = false by rw [← HPP.out]; simp [])
    obtain rfl := HV.out
    try clear k1
    try clear k2
    try clear k3
    try clear k4
    go_wp2_with (first | (go_at_call 40; refine (za6.calls k A0_0 c0_0 l0_0 (some ⟨w.heap.size + 1 + 1, 0, none⟩) 1 [a1] true _ (Kd.C_below HR.out (by repeat (first | exact HW.out | exact Below.refl _ _ | apply zac | apply zaa | apply zad | apply zaM))) HC.out HD.out (by simp) HM.out).mono ?_; rintro e' w1 ⟨rfl, hb⟩; have HB1 := zab.mk (zak (zac HW0.out _) hb); clear hb) | (go_at_call 45; refine (za2.calls a5 false _ HT.out).mono ?_; rintro e' w2 ⟨rfl, ⟨nd, rfl⟩⟩))
    go_meet
    case rel => exact ⟨rfl, ⟨by repeat (first | exact HB1.out | exact Below.refl _ _ | apply zac | apply zaa | apply zad | apply zaM)⟩⟩
   | true =>
    by_cases k1 : 1 ≤ a3
    ·have K1 : decide (1 ≤ a3) = true := decide_eq_true k1
     by_cases k2 : a3 ≤ 3
     ·have K2 : decide (a3 ≤ 3) = true := decide_eq_true k2
      by_cases k3 : a3 = 3
      ·have K3 : (a3 == 3) = true := beq_iff_eq.mpr k3
       have HV := zab.mk (show p = true by rw [← HPP.out]; simp [K1, K2, K3, k1, k2, k3])
       obtain rfl := HV.out
       try clear k1
       try clear k2
       try clear k3
       try clear k4
       go_wp2_with (first | (go_at_call 40; refine (za6.calls k A0_0 c0_0 l0_0 (some ⟨w.heap.size + 1 + 1, 0, none⟩) 1 [a1] true _ (Kd.C_below HR.out (by repeat (first | exact HW.out | exact Below.refl _ _ | apply zac | apply zaa | apply zad | apply zaM))) HC.out HD.out (by simp) HM.out).mono ?_; rintro e' w1 ⟨rfl, hb⟩; have HB1 := zab.mk (zak (zac HW0.out _) hb); clear hb) | (go_at_call 45; refine (za2.calls a5 true _ HT.out).mono ?_; rintro e' w2 ⟨rfl, ⟨nd, rfl⟩⟩))
       go_meet
       case rel => exact ⟨rfl, ⟨by repeat (first | exact HB1.out | exact Below.refl _ _ | apply zac | apply zaa | apply zad | apply zaM)⟩⟩
      ·have K3 : (a3 == 3) = false := beq_eq_false_iff_ne.mpr k3
       by_cases k4 : a4.toList = ([] : List UInt8)
       ·have K4 : (a4.toList == ([] : List UInt8)) = true := beq_iff_eq.mpr k4
        have HV := zab.mk (show p = true by rw [← HPP.out]; simp [K1, K2, K3, K4, k1, k2, k3, k4])
        obtain rfl := HV.out
        try clear k1
        try clear k2
        try clear k3
        try clear k4
        go_wp2_with (first | (go_at_call 40; refine (za6.calls k A0_0 c0_0 l0_0 (some ⟨w.heap.size + 1 + 1, 0, none⟩) 1 [a1] true _ (Kd.C_below HR.out (by repeat (first | exact HW.out | exact Below.refl _ _ | apply zac | apply zaa | apply zad | apply zaM))) HC.out HD.out (by simp) HM.out).mono ?_; rintro e' w1 ⟨rfl, hb⟩; have HB1 := zab.mk (zak (zac HW0.out _) hb); clear hb) | (go_at_call 45; refine (za2.calls a5 true _ HT.out).mono ?_; rintro e' w2 ⟨rfl, ⟨nd, rfl⟩⟩))
        go_meet
        case rel => exact ⟨rfl, ⟨by repeat (first | exact HB1.out | exact Below.refl _ _ | apply zac | apply zaa | apply zad | apply zaM)⟩⟩
       ·have K4 : (a4.toList == ([] : List UInt8)) = false := beq_eq_false_iff_ne.mpr k4
        have HV := zab.mk (show p = false by rw [← HPP.out]; simp [K1, K2, K3, K4, k3, k4])
        obtain rfl := HV.out
        try clear k1
        try clear k2
        try clear k3
        try clear k4
        go_wp2_with (first | (go_at_call 40; refine (za6.calls k A0_0 c0_0 l0_0 (some ⟨w.heap.size + 1 + 1, 0, none⟩) 1 [a1] true _ (Kd.C_below HR.out (by repeat (first | exact HW.out | exact Below.refl _ _ | apply zac | apply zaa | apply zad | apply zaM))) HC.out HD.out (by simp) HM.out).mono ?_; rintro e' w1 ⟨rfl, hb⟩; have HB1 := zab.mk (zak (zac HW0.out _) hb); clear hb) | (go_at_call 45; refine (za2.calls a5 true _ HT.out).mono ?_; rintro e' w2 ⟨rfl, ⟨nd, rfl⟩⟩))
        go_meet
        case rel => exact ⟨rfl, ⟨by repeat (first | exact HB1.out | exact Below.refl _ _ | apply zac | apply zaa | apply zad | apply zaM)⟩⟩
     ·have K2 : decide (a3 ≤ 3) = false := decide_eq_false k2
      have HV := zab.mk (show p = false by rw [← HPP.out]; simp [k2])
      obtain rfl := HV.out
      try clear k1
      try clear k2
      try clear k3
      try clear k4
      go_wp2_with (first | (go_at_call 40; refine (za6.calls k A0_0 c0_0 l0_0 (some ⟨w.heap.size + 1 + 1, 0, none⟩) 1 [a1] true _ (Kd.C_below HR.out (by repeat (first | exact HW.out | exact Below.refl _ _ | apply zac | apply zaa | apply zad | apply zaM))) HC.out HD.out (by simp) HM.out).mono ?_; rintro e' w1 ⟨rfl, hb⟩; have HB1 := zab.mk (zak (zac HW0.out _) hb); clear hb) | (go_at_call 45; refine (za2.calls a5 true _ HT.out).mono ?_; rintro e' w2 ⟨rfl, ⟨nd, rfl⟩⟩))
      go_meet
      case rel => exact ⟨rfl, ⟨by repeat (first | exact HB1.out | exact Below.refl _ _ | apply zac | apply zaa | apply zad | apply zaM)⟩⟩
    ·have K1 : decide (1 ≤ a3) = false := decide_eq_false k1
     have HV := zab.mk (show p = false by rw [← HPP.out]; simp [k1])
     obtain rfl := HV.out
     try clear k1
     try clear k2
     try clear k3
     try clear k4
     go_wp2_with (first | (go_at_call 40; refine (za6.calls k A0_0 c0_0 l0_0 (some ⟨w.heap.size + 1 + 1, 0, none⟩) 1 [a1] true _ (Kd.C_below HR.out (by repeat (first | exact HW.out | exact Below.refl _ _ | apply zac | apply zaa | apply zad | apply zaM))) HC.out HD.out (by simp) HM.out).mono ?_; rintro e' w1 ⟨rfl, hb⟩; have HB1 := zab.mk (zak (zac HW0.out _) hb); clear hb) | (go_at_call 45; refine (za2.calls a5 true _ HT.out).mono ?_; rintro e' w2 ⟨rfl, ⟨nd, rfl⟩⟩))
     go_meet
     case rel => exact ⟨rfl, ⟨by repeat (first | exact HB1.out | exact Below.refl _ _ | apply zac | apply zaa | apply zad | apply zaM)⟩⟩
 case rest =>
  clear HP HW0
  obtain ⟨rfl, HB⟩ := hcut
  have hct := zbd HB.out
  go_upto_if 40 with (fail)
  go_cut [15, 16] (fun v15 v16 wc => v15 = .int .i64 e ∧ v16 = .int .i64 n ∧ zab (Below (zbz w A0_0 l0_0.length c0_0).heap.size (zbz w A0_0 l0_0.length c0_0) wc))
  case first =>
   clear HH
   cases p with
   | false =>
    have hq : (100, 0) = (e, n) := Option.some.inj HE2.out
    injection hq with hq1 hq2
    subst hq1; subst hq2
    go_wp2
    go_meet
    case rel => exact ⟨rfl, rfl, HB⟩
   | true =>
    obtain ⟨n1, hn1, hq⟩ := Option.bind_eq_some_iff.mp (show makeR k l0_0 a1 a2 a3 a4 = some (e, n) from HE2.out)
    obtain ⟨b, hb1, hq⟩ := Option.bind_eq_some_iff.mp hq
    obtain ⟨e1, he1, hq⟩ := Option.bind_eq_some_iff.mp hq
    injection (Option.some.inj hq) with hq1 hq2
    subst hq2
    have HN1 := zab.mk hn1
    have HB1 := zab.mk hb1
    have HE1 := zab.mk he1
    have HQ1 := zab.mk hq1
    clear hn1 hb1 he1 hq1 hq HE2
    go_wp2_with (first | (go_at_call 49; refine (za7.calls k A0_0 c0_0 l0_0 n1 _ (Kd.C_below HR.out (zak HW.out HB.out)) HC.out HN1.out).mono ?_; rintro e' w1 ⟨rfl, hb⟩; have HB2 := zab.mk (zak HB.out hb); have hct2 := zbd HB2.out; clear hb))
    go_region_held3 (fun w' => w'.cell? ⟨w.heap.size, 0, none⟩ = some (.slice A0_0 l0_0.length c0_0)) (first | assumption | go_keep) (first | (go_at_call 51; refine (zaX.calls k a3 a4 b _ HB1.out).mono ?_; rintro e' w2 ⟨rfl, ⟨nd, rfl⟩⟩) | (go_at_call 50; refine (zbw.calls k A0_0 c0_0 l0_0 a1 a2 b e1 _ (Kd.C_below HR.out (zak HW.out (by repeat (first | exact HB2.out | exact Below.refl _ _ | apply zac | apply zaa | apply zad | apply zaM)))) HC.out HE1.out).mono ?_; rintro e' w3 ⟨rfl, hb⟩; have HB3 := zab.mk (zak (show Below (zbz w A0_0 l0_0.length c0_0).heap.size (zbz w A0_0 l0_0.length c0_0) _ from by repeat (first | exact HB2.out | exact Below.refl _ _ | apply zac | apply zaa | apply zad | apply zaM)) hb); have hct3 := zbd HB3.out; clear hb))
    by_cases z1 : e1 = 0
    ·have Z1 : (e1 == 0) = true := beq_iff_eq.mpr z1
     have hq1 := HQ1.out
     rw [if_pos z1] at hq1
     clear z1 HQ1
     by_cases z2 : n1 = 64
     ·have Z2 : (n1 == 64) = true := beq_iff_eq.mpr z2
      rw [if_pos z2] at hq1
      subst hq1
      clear z2
      go_wp2
      go_meet
      case rel => exact ⟨rfl, rfl, HB3⟩
     ·have Z2 : (n1 == 64) = false := beq_eq_false_iff_ne.mpr z2
      rw [if_neg z2] at hq1
      subst hq1
      have z1' := beq_iff_eq.mp Z1
      clear z2
      go_wp2
      go_meet
      case rel => exact ⟨by rw [beq_iff_eq.mp Z1], rfl, HB3⟩
    ·have Z1 : (e1 == 0) = false := beq_eq_false_iff_ne.mpr z1
     have hq1 := HQ1.out
     rw [if_neg z1] at hq1
     subst hq1
     clear z1 HQ1
     go_wp2
     go_meet
     case rel => exact ⟨rfl, rfl, HB3⟩
  case rest =>
   clear HE2
   obtain ⟨rfl, rfl, HB⟩ := hcut
   have hct := zbd HB.out
   by_cases z1 : e = 0
   ·have Z1 : (e != 0) = false := by simpa using z1
    have HSZ : zab (w.heap.size + 2 ≤ wc.heap.size) := ⟨by have := HB.out.size; have h2 : (zbz w A0_0 l0_0.length c0_0).heap.size = w.heap.size + 1 + 1 := (by show ((w.alloc _).alloc _).heap.size = _; rw [World.size_alloc, World.size_alloc]); omega⟩
    obtain rfl := z1
    have hq := HH.out
    rw [if_pos rfl] at hq
    obtain ⟨u, hu, hq⟩ := Option.bind_eq_some_iff.mp hq
    split at hq
    ·rename_i hg0
     obtain ⟨r, hr, hq⟩ := Option.bind_eq_some_iff.mp hq
     injection (Option.some.inj hq) with hq1 hq2
     injection hq2 with hq2 hq3
     subst hq1; subst hq2; subst hq3
     unfold makeD at hr
     split at hr
     ·rename_i hg1
      have HADD := zab.mk (Option.some.inj hr)
      have HU := zab.mk hu
      have HG1 := zab.mk hg1
      obtain ⟨n0, n1, u1⟩ := hg0
      clear HH hq hu hr hg1
      obtain ⟨N, rfl⟩ : ∃ N : Nat, n = (N : Int) := ⟨n.toNat, by omega⟩
      by_cases hn : N = u.length
      ·subst hn
       have Z2 : ((u.length : Int) == (u.length : Int)) = true := beq_self_eq_true _
       have HL2 : zab ((zbr u (u.length : Int) a3 a4 a5).length = u.length + 1 ∧ (u ++ [z45]).set (u.length : Int).toNat ⟨a3, [], [], a4, 1, a5⟩ = zbr u (u.length : Int) a3 a4 a5) := ⟨by unfold zbr; rw [if_pos rfl]; exact ⟨by simp, rfl⟩⟩
       have p0 := eq_true (show (0 : Int) ≤ (u.length : Int) by omega)
       have p1 := eq_true (show (u.length : Int) < (u.length : Int) + 1 by omega)
       have p2 : u.length < u.length + 1 := by omega
       go_wp2_with (first | (go_at_call 42; refine (zaS.calls k A0_0 c0_0 l0_0 u _ (Kd.C_below HR.out (zak HW.out HB.out)) HC.out HU.out).mono ?_; rintro e' w1 ⟨v, rfl, hS, hb⟩; obtain ⟨vA, vc0, rfl⟩ := Kd.zbu hS; have HB1 := zak HB.out hb; have hK := zbs HB1; have hX := boxed hK.1 hK.2 (zak HW.out HB1) (Kd.zbq (Kd.zby (ok' := (fun k => k ≠ w.heap.size ∧ k ≠ w.heap.size + 1)) (Kd.S_bound hS) (fun k hk => ⟨by have := HSZ.out; have := hk.2.1; omega, by have := HSZ.out; have := hk.2.1; omega⟩)) (zak HW.out HB.out).size); have hct1 := zbd HB1; have hf1 := zae hK.1 0; have HK6 := zab.mk hX.1; have HK12 := zab.mk hX.2.1; have HS1 := zab.mk hX.2.2.1; have HB2 := zab.mk hX.2.2.2; have hct2 := (zah HK6.out 0).trans rfl; have hf2 := zae HK6.out 0; clear hS hb hX HB1 hK) | (at_builtin; refine Kd.S_append k45 (w0 := w) w.heap.size rfl (.tmp 74) (.tmp 76) 22 45 (.agg #[.int .i64 0, .slice none 0 0, .slice none 0 0, .string ⟨#[]⟩, .int .i64 0, .int .i64 0]) 88 rfl Try.underlying22 info45 rfl (by decide) (by omega) (.slice vA u.length vc0) u z45 [.int .i64 0, .slice none 0 0, .slice none 0 0, .string ⟨#[]⟩, .int .i64 0, .int .i64 0] (fun k => k ≠ w.heap.size ∧ k ≠ w.heap.size + 1) (fun _ => False) rfl ?hx (k45_mkM _ _ _ z45 (Kd.R_nil _ _ _ _ _) (Kd.R_nil _ _ _ _ _)) (fun _ hk => hk.elim) (fun q hq => ⟨by have := zaL HK12.out; omega, by have := zaL HK12.out; omega⟩) (Kd.zby HS1.out (fun _ hk => ⟨hk, fun h => h⟩)) HB2.out HB2.out.size (by omega) ?_; (case hx => exact congrArg (fun q => Value.slice (some ⟨q, 0, none⟩) 1 1) (show w1.heap.size = (w1.setCell ⟨w.heap.size, 0, none⟩ (.slice vA u.length vc0)).heap.size by simp [World.setCell])); intro v2 w2 hS2 hb2 hg2 hat; obtain ⟨g, vc, e2, hgN, hgl, _⟩ := Kd.S_form hS2 (by simp); rw [show (u ++ [z45]).length = u.length + 1 from by simp] at e2; subst e2; have h6 := zbk HK6.out hg2 (Kd.S_ne HS1.out HK6.out (by decide)); have h12 := zbk HK12.out hg2 (Kd.S_ne HS1.out HK12.out (by decide)); have hX := boxed h6 h12 hb2 hS2; have hct3 := (zah h6 0).trans rfl; have hf3 := zae h6 0; clear HK6 HK12 HS1 HB2; have HK6 := zab.mk hX.1; have HK12 := zab.mk hX.2.1; have HS1 := zab.mk hX.2.2.1; have HB2 := zab.mk hX.2.2.2; have hct4 := (zah HK6.out 0).trans rfl; have hf4 := zae HK6.out 0; clear hS2 hb2 hg2 hat h6 h12 hX; obtain ⟨oki, cs, hcl, _, _, _, hH⟩ := Kd.S_lend HS1.out z45 ((u.length : Int) : Int) (by omega) (by omega); have HCL := zab.mk hcl; have HH1 := zab.mk hH; clear hcl hH) | (refine Kd.H_store k45 (w0 := w) w.heap.size rfl rfl 45 (.tmp 86) (.tmp 85) rfl 45 (o' := u.length * 6) ((u.length : Int) : Int) 0 (u ++ [z45]) ⟨a3, [], [], a4, 1, a5⟩ (.agg #[.int .i64 a3, .slice none 0 0, .slice none 0 0, .string a4, .int .i64 1, .int .i64 a5]) [.int .i64 a3, .slice none 0 0, .slice none 0 0, .string a4, .int .i64 1, .int .i64 a5] cs (fun k => k ≠ w.heap.size ∧ k ≠ w.heap.size + 1) oki (fun _ => False) rfl rfl rfl rfl (by kernel_rfl) (one6 _ _ _ _) HH1.out (by omega) (by omega) (by show 0 + 6 ≤ 6; omega) (by rw [List.drop_eq_nil_of_le (by rw [HCL.out]; show 6 ≤ 0 + 6; omega)]; exact k45_mkM _ _ _ ⟨a3, [], [], a4, 1, a5⟩ (Kd.R_nil _ _ _ _ _) (Kd.R_nil _ _ _ _ _)) (fun _ hk => hk.elim) HB2.out ?_; intro w4 hS4 hb4 hg4; have HNE := Kd.S_ne HS1.out HK6.out (by decide); have HNE12 := Kd.S_ne HS1.out HK12.out (by decide); have HK6b := zab.mk (zbk HK6.out hg4 HNE); have HK12b := zab.mk (zbk HK12.out hg4 HNE12); have HS4 := zab.mk hS4; have HB4 := zab.mk hb4; have hct6 := (zah HK6b.out 0).trans rfl; have hct412 := (zah HK12b.out 0).trans rfl; clear hS4 hb4 hg4 HNE HNE12) | (go_at_call 52; have hadd := tree_add.calls w4 w.heap.size g vc (fun k => k ≠ w.heap.size ∧ k ≠ w.heap.size + 1) (zbr u ((u.length : Int) : Int) a3 a4 a5) a1 a2 ((u.length : Int) : Int) a5 (by rw [HL2.out.1, ← HL2.out.2]; exact HS4.out) HG1.out.1 HG1.out.2.1 (fun q hq => ⟨by have := zaL HK12b.out; omega, by have := zaL HK12b.out; omega⟩) HB4.out.size (by have := HG1.out.2.2.1; omega) HG1.out.2.2.2; rw [HL2.out.1] at hadd; refine hadd.mono ?_; rintro e' w5 ⟨rfl, hS5, hb5, ho5⟩; have HK6c := zab.mk ((ho5 w.heap.size (zaL HK6b.out) (by simp)).trans HK6b.out); have HK12c := zab.mk ((ho5 (w.heap.size + 1) (zaL HK12b.out) (by simp)).trans HK12b.out); have HS5 := zab.mk hS5; have HB5 := zab.mk (HB4.out.trans hb5); have hct5 := (zah HK6c.out 0).trans rfl; have hct512 := (zah HK12c.out 0).trans rfl; have hf512 := zae HK12c.out 0; clear hadd hS5 hb5 ho5))
       refine bodyPost_ret (results_ctt rfl _ _ (w.heap.size + 1) 24 #[.slice (some ⟨g, 0, none⟩) (u.length + 1) vc] (0, 0) _ rfl (zaU HK12c.out 0 _ rfl) Try.underlying24 rfl (by kernel_rfl)) rfl ?_
       refine ⟨_, rfl, ?_, HB5.out.setCell (p := ⟨w.heap.size + 1, 0, none⟩) (by show _ ≤ _ + 1; omega) _⟩
       rw [← HADD.out]
       exact Kd.zby (Kd.S_set HS5.out HK12c.out (by decide) 0 _) (fun _ _ => trivial)
      ·have Z2 : ((N : Int) == (u.length : Int)) = false := beq_eq_false_iff_ne.mpr (by omega)
       have Z2b : (N == u.length) = false := beq_eq_false_iff_ne.mpr (by omega)
       have hlt : N < u.length := by omega
       have HL2 : zab ((zbr u (N : Int) a3 a4 a5).length = u.length ∧ u.set (N : Int).toNat ⟨a3, [], [], a4, 1, a5⟩ = zbr u (N : Int) a3 a4 a5) := ⟨by unfold zbr; rw [if_neg (by omega)]; exact ⟨List.length_set, rfl⟩⟩
       have p0 := eq_true (show (0 : Int) ≤ (N : Int) by omega)
       have p1 := eq_true (show (N : Int) < (u.length : Int) by omega)
       go_wp2_with (first | (go_at_call 42; refine (zaS.calls k A0_0 c0_0 l0_0 u _ (Kd.C_below HR.out (zak HW.out HB.out)) HC.out HU.out).mono ?_; rintro e' w1 ⟨v, rfl, hS, hb⟩; obtain ⟨g, vc, rfl, hgN, hgl, _⟩ := Kd.S_form hS (by omega); have HB1 := zak HB.out hb; have hK := zbs HB1; have hX := boxed hK.1 hK.2 (zak HW.out HB1) (Kd.zbq (Kd.zby (ok' := (fun k => k ≠ w.heap.size ∧ k ≠ w.heap.size + 1)) (Kd.S_bound hS) (fun k hk => ⟨by have := HSZ.out; have := hk.2.1; omega, by have := HSZ.out; have := hk.2.1; omega⟩)) (zak HW.out HB.out).size); have hct1 := zbd HB1; have hf1 := zae hK.1 0; have HK6 := zab.mk hX.1; have HK12 := zab.mk hX.2.1; have HS1 := zab.mk hX.2.2.1; have HB2 := zab.mk hX.2.2.2; have hct2 := (zah HK6.out 0).trans rfl; have hf2 := zae HK6.out 0; clear hS hb hX HB1 hK; obtain ⟨oki, cs, hcl, _, _, _, hH⟩ := Kd.S_lend HS1.out z45 ((N : Int) : Int) (by omega) (by omega); have HCL := zab.mk hcl; have HH1 := zab.mk hH; clear hcl hH) | (refine Kd.H_store k45 (w0 := w) w.heap.size rfl rfl 45 (.tmp 86) (.tmp 85) rfl 45 (o' := N * 6) ((N : Int) : Int) 0 u ⟨a3, [], [], a4, 1, a5⟩ (.agg #[.int .i64 a3, .slice none 0 0, .slice none 0 0, .string a4, .int .i64 1, .int .i64 a5]) [.int .i64 a3, .slice none 0 0, .slice none 0 0, .string a4, .int .i64 1, .int .i64 a5] cs (fun k => k ≠ w.heap.size ∧ k ≠ w.heap.size + 1) oki (fun _ => False) rfl rfl rfl rfl (by kernel_rfl) (one6 _ _ _ _) HH1.out (by omega) (by omega) (by show 0 + 6 ≤ 6; omega) (by rw [List.drop_eq_nil_of_le (by rw [HCL.out]; show 6 ≤ 0 + 6; omega)]; exact k45_mkM _ _ _ ⟨a3, [], [], a4, 1, a5⟩ (Kd.R_nil _ _ _ _ _) (Kd.R_nil _ _ _ _ _)) (fun _ hk => hk.elim) HB2.out ?_; intro w4 hS4 hb4 hg4; have HNE := Kd.S_ne HS1.out HK6.out (by decide); have HNE12 := Kd.S_ne HS1.out HK12.out (by decide); have HK6b := zab.mk (zbk HK6.out hg4 HNE); have HK12b := zab.mk (zbk HK12.out hg4 HNE12); have HS4 := zab.mk hS4; have HB4 := zab.mk hb4; have hct4 := (zah HK6b.out 0).trans rfl; have hct412 := (zah HK12b.out 0).trans rfl; clear hS4 hb4 hg4 HNE HNE12) | (go_at_call 52; have hadd := tree_add.calls w4 w.heap.size g vc (fun k => k ≠ w.heap.size ∧ k ≠ w.heap.size + 1) (zbr u ((N : Int) : Int) a3 a4 a5) a1 a2 ((N : Int) : Int) a5 (by rw [HL2.out.1, ← HL2.out.2]; exact HS4.out) HG1.out.1 HG1.out.2.1 (fun q hq => ⟨by have := zaL HK12b.out; omega, by have := zaL HK12b.out; omega⟩) HB4.out.size (by have := HG1.out.2.2.1; omega) HG1.out.2.2.2; rw [HL2.out.1] at hadd; refine hadd.mono ?_; rintro e' w5 ⟨rfl, hS5, hb5, ho5⟩; have HK6c := zab.mk ((ho5 w.heap.size (zaL HK6b.out) (by simp)).trans HK6b.out); have HK12c := zab.mk ((ho5 (w.heap.size + 1) (zaL HK12b.out) (by simp)).trans HK12b.out); have HS5 := zab.mk hS5; have HB5 := zab.mk (HB4.out.trans hb5); have hct5 := (zah HK6c.out 0).trans rfl; have hct512 := (zah HK12c.out 0).trans rfl; have hf512 := zae HK12c.out 0; clear hadd hS5 hb5 ho5))
       refine bodyPost_ret (results_ctt rfl _ _ (w.heap.size + 1) 24 #[.slice (some ⟨g, 0, none⟩) u.length vc] (0, 0) _ rfl (zaU HK12c.out 0 _ rfl) Try.underlying24 rfl (by kernel_rfl)) rfl ?_
       refine ⟨_, rfl, ?_, HB5.out.setCell (p := ⟨w.heap.size + 1, 0, none⟩) (by show _ ≤ _ + 1; omega) _⟩
       rw [← HADD.out]
       exact Kd.zby (Kd.S_set HS5.out HK12c.out (by decide) 0 _) (fun _ _ => trivial)
     ·cases hr
    ·cases hq
   ·have Z1 : (e != 0) = true := by simpa using z1
    have hq := HH.out
    rw [if_neg z1] at hq
    obtain ⟨⟨b1, b2⟩, hbad, hq⟩ := Option.bind_eq_some_iff.mp hq
    have HBAD := zab.mk hbad
    injection (Option.some.inj hq) with hq1 hq2
    injection hq2 with hq2 hq3
    subst hq1; subst hq2; subst hq3
    clear HH hq hbad z1
    go_wp2_with (first | (go_at_call 41; refine (zaR.calls k A0_0 c0_0 l0_0 e b1 b2 _ (Kd.C_below HR.out (zak HW.out HB.out)) HC.out HBAD.out).mono ?_; rintro e' w1 ⟨v, rfl, hS, hb⟩; obtain ⟨vA, vc, rfl⟩ := Kd.zbu hS; have HS1 := zab.mk hS; have HB1 := zab.mk (zak HB.out hb); have HK := zab.mk (zbs HB1.out); have hct1 := zbd HB1.out; have hf1 := zae HK.out.1 0; have HK2 := zab.mk (zaU HK.out.1 0 (.slice vA b1.length vc) rfl); have HK3 := zab.mk (zaV HK.out.2 (p := ⟨w.heap.size, 0, none⟩) (by simp) (.slice vA b1.length vc)); have hct2 := (zah HK2.out 0).trans rfl; have hct3 := (zah HK3.out 0).trans rfl; have hf3 := zae HK3.out 0; clear hS hb))
    refine bodyPost_ret (results_ctt rfl _ _ (w.heap.size + 1) 24 #[.slice vA b1.length vc] (0, 0) _ rfl (zaU HK3.out 0 _ rfl) Try.underlying24 rfl (by kernel_rfl)) rfl ?_
    refine ⟨_, rfl, Kd.S_set (Kd.S_set (Kd.zbq HS1.out (zak HW.out HB.out).size) HK.out.1 (by decide) 0 _) HK3.out (by decide) 0 _, ?_⟩
    exact ((zak HW.out HB1.out).setCell (p := ⟨w.heap.size, 0, none⟩) (Nat.le_refl _) _).setCell (p := ⟨w.heap.size + 1, 0, none⟩) (by show _ ≤ _ + 1; omega) _
def tree_New.f  : Option ((List (S45))) := some (([(⟨2, ([] : List Int), ([] : List (S66)), (⟨#[]⟩ : ByteArray), 1, 0⟩ : S45)] : List (S45)))
set_option maxHeartbeats 8000000 in
set_option maxRecDepth 100000 in
theorem tree_New.calls  (r : List (S45)) (w : World) (h : tree_New.f  = some r) :
  Calls Try.prog 39 #[] w fun e w' => ∃ v0_ : Value, e = .returned (.agg #[v0_]) ∧ Kd.S k45 45 w' w.heap.size (fun _ => True) v0_ r ∧ Below w.heap.size w w' := by
 have hu24 := Try.underlying24
 have hu45 := Try.underlying45
 have HB := zab.mk (Below.refl w.heap.size w)
 have H : (some (([(⟨2, ([] : List Int), ([] : List (S66)), (⟨#[]⟩ : ByteArray), 1, 0⟩ : S45)] : List (S45)))) = some r := h
 clear h
 obtain ⟨y245, hy245⟩ : ∃ y_ : List (S45), y_ = (([(⟨2, ([] : List Int), ([] : List (S66)), (⟨#[]⟩ : ByteArray), 1, 0⟩ : S45)] : List (S45))) := ⟨_, rfl⟩
 replace H : (some y245) = some r := by first | (rw [hy245]; with_reducible exact H) | (have H2_ := (Option.bind_some _ _).symm.trans H; rw [hy245]; with_reducible exact H2_) | (have H2_ := (Option.bind_some _ _).symm.trans H; with_reducible exact H2_) | with_reducible exact H | (rw [hy245]; exact H) | exact H
 have Ny245 := zab.mk hy245
 clear hy245
 obtain rfl := Option.some.inj H
 go_enter Try.func39, Try.ntmps39
 go_wp2_with (first | ((with_reducible refine zay (N := 0) rfl ?_); refine zax ?hg (N := 0) ?hd (cs := #[.slice none 0 0]) (t := 24) ?hr ?_; (case hd => rfl); (case hg => rfl); (case hr => first | (go_simp; done) | (go_simp; rfl)); intro gb244 hg w1 hbox hb; have n0_ := zab.mk (zak (by repeat (first | (with_reducible first | exact HB.out | apply zac | apply zaa | apply zad) | exact HB.out)) hb); have n1_ := zab.mk (hbox); have n2_ := zab.mk ((by rw [hg]; exact (zan (by repeat (first | (with_reducible first | exact HB.out | apply zac | apply zaa | apply zad) | exact HB.out))) : w.heap.size ≤ gb244)); have n3_ := zab.mk ((by rw [hg]; exact (zan (by repeat (first | (with_reducible first | exact HB.out | apply zac | apply zaa | apply zad) | exact HB.out))) : w.heap.size ≤ gb244)); clear HB; have HB := n0_; have BK244 := n1_; have GW244 := n2_; have GE244 := n3_; clear n0_ n1_ n2_ n3_; clear hb hbox hg) | ((with_reducible refine zay (N := 2) rfl ?_); refine Kd.S_lit k45 _ 45 ?hg (N := 2) ?hd (xs := ([(⟨2, ([] : List Int), ([] : List (S66)), (⟨#[]⟩ : ByteArray), 1, 0⟩ : S45)] : List (S45))) (inner := [.int .i64 2, .slice none 0 0, .slice none 0 0, .string (⟨#[]⟩ : ByteArray), .int .i64 1, .int .i64 0]) (ok := fun _ => True) (okp := fun _ => True) ?hr ?hp (fun _ hk => hk) trivial (Below.refl _ _) (Nat.le_refl _) (by simp) ?_; (case hd => rfl); (case hg => rfl); (case hr => first | (go_simp; done) | (go_simp; rfl)); (case hp => exact (Reps.c6 (show Kd.M k45 _ _ _ (⟨2, ([] : List Int), ([] : List (S66)), (⟨#[]⟩ : ByteArray), 1, 0⟩ : S45) [.int .i64 2, .slice none 0 0, .slice none 0 0, .string (⟨#[]⟩ : ByteArray), .int .i64 1, .int .i64 0] from (k45_mkM _ _ _ (⟨2, ([] : List Int), ([] : List (S66)), (⟨#[]⟩ : ByteArray), 1, 0⟩ : S45) (Kd.R_nil _ _ _ _ _) (Kd.R_nil _ _ _ _ _))) (Reps.none _ _))); intro v246 w2 ho3 hb hg_ hnew_; clear hg_ hnew_; (first | rw [← Ny245.out] at ho3 | (simp only [Int.reduceToNat] at ho3; rw [← Ny245.out] at ho3)); have n0_ := zab.mk (Kd.zbq ho3 (zan (by repeat (first | (with_reducible first | exact HB.out | apply zac | apply zaa | apply zad | refine zai ?_ GE244.out) | exact HB.out)))); have n1_ := zab.mk (zas (g := gb244) (o := .cells #[.slice none 0 0] 24 (0, 0)) (by (with_reducible repeat (first | refine zal ?_ _ | refine zam ?_ | refine zaj ?_ _)); exact BK244.out) hb); have n2_ := zab.mk (zak (by repeat (first | (with_reducible first | exact HB.out | apply zac | apply zaa | apply zad | refine zai ?_ GE244.out) | exact HB.out)) hb); clear BK244; clear HB; have HO247 := n0_; have BK244 := n1_; have HB := n2_; clear n0_ n1_ n2_; clear hb ho3; obtain ⟨Ao4, co4, eo4⟩ := Kd.zbu HO247.out; subst eo4; have hcz5_0 : w2.cell? ⟨gb244, 0, none⟩ = some (.slice none 0 0) := (zah BK244.out 0).trans rfl; have hfz5_0 := zae BK244.out 0))
 refine bodyPost_ret (results_cell_row rfl _ _ gb244 24 #[.slice Ao4 y245.length co4] (0, 0) _ rfl (by (with_reducible repeat (first | refine zal ?_ _ | refine zam ?_ | refine zaj ?_ _)); refine zaU (cs := #[.slice none 0 0]) ?_ 0 _ rfl; (with_reducible repeat (first | refine zal ?_ _ | refine zam ?_ | refine zaj ?_ _)); exact BK244.out) Try.underlying24 rfl (by kernel_rfl)) rfl ?_
 exact ⟨_, by first | rfl | (simp [zar, zaq] <;> rfl) | (simp [*, zar, zaq] <;> rfl), by (with_reducible repeat (first | apply Kd.zbn | apply Kd.zbm | apply Kd.zbH)); exact Kd.zby (Kd.S_far (p := ⟨gb244, 0, none⟩) (Kd.S_types HO247.out BK244.out (by decide)) (fun _ hk => hk.2) (.slice Ao4 y245.length co4)) (fun _ hk => trivial), by repeat (first | (with_reducible first | exact HB.out | apply zac | apply zaa | apply zad | refine zai ?_ GE244.out) | exact HB.out)⟩
def za1.f (k : Nat)  : Option (Bool) := (tree_New.f).bind fun t248 => ((zbo.f k t248 0 (⟨#[97]⟩ : ByteArray) 1 (⟨#[]⟩ : ByteArray) 5).bind fun bt251 => ((zbc.f bt251.2.2).bind fun t257 => (if t257 = 0 then (if bt251.2.1 = 1 then (if (bt251.1.length : Int) = 2 then (if 1 < (bt251.1.length : Int) then (some (((zaf bt251.1 1).f0) == 1)) else (none)) else (some false)) else (some false)) else (some false))))
theorem za1.mono : ∀ k, LeO (za1.f k ) (za1.f (k + 1) ) := by
 intro  k
 unfold za1.f
 repeat' first
   | (with_reducible exact zbo.mono _ _ _ _ _ _ _)
   | (with_reducible exact LeO.refl _)
   | (with_reducible exact LeO.none _)
   | (with_reducible refine LeO.ite ?_ ?_)
   | (with_reducible refine LeO.bind ?_ (fun _ => ?_))
   | exact zbo.mono _ _ _ _ _ _ _
   | exact LeO.none _
   | refine LeO.ite ?_ ?_
   | refine LeO.bind ?_ (fun _ => ?_)
set_option maxHeartbeats 8000000 in
set_option maxRecDepth 100000 in
theorem za1.calls (k : Nat)  (r : Bool) (w : World) (h : za1.f k  = some r) :
  Calls Try.prog 16 #[] w fun e w' => e = .returned (.bool r) ∧ Below w.heap.size w w' := by
 have hu24 := Try.underlying24
 have HB := zab.mk (Below.refl w.heap.size w)
 have H : ((tree_New.f).bind fun t248 => ((zbo.f k t248 0 (⟨#[97]⟩ : ByteArray) 1 (⟨#[]⟩ : ByteArray) 5).bind fun bt251 => ((zbc.f bt251.2.2).bind fun t257 => (if t257 = 0 then (if bt251.2.1 = 1 then (if (bt251.1.length : Int) = 2 then (if 1 < (bt251.1.length : Int) then (some (((zaf bt251.1 1).f0) == 1)) else (none)) else (some false)) else (some false)) else (some false))))) = some r := h
 clear h
 replace H := Option.bind_eq_some_iff.mp H
 obtain ⟨t248, A10, H⟩ := H
 replace H : ((zbo.f k t248 0 (⟨#[97]⟩ : ByteArray) 1 (⟨#[]⟩ : ByteArray) 5).bind fun bt251 => ((zbc.f bt251.2.2).bind fun t257 => (if t257 = 0 then (if bt251.2.1 = 1 then (if (bt251.1.length : Int) = 2 then (if 1 < (bt251.1.length : Int) then (some (((zaf bt251.1 1).f0) == 1)) else (none)) else (some false)) else (some false)) else (some false)))) = some r := H
 have A1 := zab.mk A10
 clear A10
 replace H := Option.bind_eq_some_iff.mp H
 obtain ⟨⟨t251, t254, t255⟩, A20, H⟩ := H
 replace H : ((zbc.f t255).bind fun t257 => (if t257 = 0 then (if t254 = 1 then (if (t251.length : Int) = 2 then (if 1 < (t251.length : Int) then (some (((zaf t251 1).f0) == 1)) else (none)) else (some false)) else (some false)) else (some false))) = some r := H
 have A2 := zab.mk A20
 clear A20
 replace H := Option.bind_eq_some_iff.mp H
 obtain ⟨t257, A30, H⟩ := H
 replace H : (if t257 = 0 then (if t254 = 1 then (if (t251.length : Int) = 2 then (if 1 < (t251.length : Int) then (some (((zaf t251 1).f0) == 1)) else (none)) else (some false)) else (some false)) else (some false)) = some r := H
 have A3 := zab.mk A30
 clear A30
 by_cases c4 : t257 = 0
 ·rw [if_pos c4] at H
  have c4b0 : (t257 == 0) = true := beq_iff_eq.mpr c4
  have c4b1 : (t257 != 0) = false := bne_eq_false_iff_eq.mpr c4
  clear c4
  by_cases c5 : t254 = 1
  ·rw [if_pos c5] at H
   have c5b0 : (t254 == 1) = true := beq_iff_eq.mpr c5
   have c5b1 : (t254 != 1) = false := bne_eq_false_iff_eq.mpr c5
   clear c5
   by_cases c6 : (t251.length : Int) = 2
   ·rw [if_pos c6] at H
    have c6b0 : ((t251.length : Int) == 2) = true := beq_iff_eq.mpr c6
    have c6b1 : ((t251.length : Int) != 2) = false := bne_eq_false_iff_eq.mpr c6
    clear c6
    by_cases c7 : 1 < (t251.length : Int)
    ·rw [if_pos c7] at H
     have c7b0 : decide (1 < (t251.length : Int)) = true := decide_eq_true c7
     have c7b1 : decide (1 < t251.length) = true := decide_eq_true (by omega)
     clear c7
     obtain rfl := Option.some.inj H
     go_enter Try.func16, Try.ntmps16
     go_wp2_with (first | ((with_reducible refine zaE (f := 39) rfl ?_); refine zbe (some 5) rfl rfl Try.func39 (by kernel_rfl) rfl #[] rfl (by (try simp only [List.map_toArray, List.map_cons, List.map_nil]); first | done | rfl | (simp only [List.length_drop, List.length_take]; rfl)) ?_; (with_reducible refine (tree_New.calls  t248 _ A1.out).mono ?_); rintro e w8 ⟨v249, rfl, ho0, hb⟩; refine ⟨_, rfl, ?_⟩; have n0_ := zab.mk (Kd.zbq ho0 (zan (by repeat (first | (with_reducible first | exact HB.out | apply zac | apply zaa | apply zad) | exact HB.out)))); have n1_ := zab.mk (zak (by repeat (first | (with_reducible first | exact HB.out | apply zac | apply zaa | apply zad) | exact HB.out)) hb); clear HB; have HO250 := n0_; have HB := n1_; clear n0_ n1_; (try clear hb); (try clear hb2); (try clear hk); (try clear hi); (try clear ho0); obtain ⟨Ao9, co9, eo9⟩ := Kd.zbu HO250.out; subst eo9) | ((with_reducible refine zaE (f := 26) rfl ?_); refine zbe (some 6) rfl rfl Try.func26 (by kernel_rfl) rfl #[.agg #[.slice Ao9 t248.length co9], .int .i64 0, .string (⟨#[97]⟩ : ByteArray), .int .i64 1, .string (⟨#[]⟩ : ByteArray), .int .i64 5] rfl (by (try simp only [List.map_toArray, List.map_cons, List.map_nil]); first | done | rfl | (simp only [List.length_drop, List.length_take]; rfl)) ?_; (with_reducible refine (zbo.calls k _ _ t248 0 (⟨#[97]⟩ : ByteArray) 1 (⟨#[]⟩ : ByteArray) 5 t251 t254 t255 _ ?side1 ?side2 A2.out).mono ?_); (case side1 => repeat (first | exact (Kd.zce HO250.out).2.2 | (with_reducible refine Kd.C_alloc ?_ _) | (with_reducible refine Kd.C_drewN ?_ _) | (with_reducible refine Kd.C_drew ?_))); (case side2 => exact (Kd.zce HO250.out).2.1); rintro e w10 ⟨v252, rfl, ho0, hb⟩; refine ⟨_, rfl, ?_⟩; have n0_ := zab.mk (Kd.S_elder' (by (with_reducible repeat (first | apply Kd.zbn | apply Kd.zbm | apply Kd.zbH)); exact HO250.out) (Kd.S_base ho0) hb); have n1_ := zab.mk (Kd.zbq (Kd.S_new' ho0 (Kd.S_lt (by (with_reducible repeat (first | apply Kd.zbn | apply Kd.zbm | apply Kd.zbH)); exact HO250.out))) (zan (by repeat (first | (with_reducible first | exact HB.out | apply zac | apply zaa | apply zad) | exact HB.out)))); have n2_ := zab.mk (zak (by repeat (first | (with_reducible first | exact HB.out | apply zac | apply zaa | apply zad) | exact HB.out)) hb); clear HO250; clear HB; have HO250 := n0_; have HO253 := n1_; have HB := n2_; clear n0_ n1_ n2_; (try clear hb); (try clear hb2); (try clear hk); (try clear hi); (try clear ho0)) | ((with_reducible refine zay (N := 1) rfl ?_); (try (refine zaN (by rfl) ?_; dsimp only)); refine zax ?hg (N := 1) ?hd (cs := #[.slice none 0 0]) (t := 24) ?hr ?_; (case hd => rfl); (case hg => rfl); (case hr => first | (go_simp; done) | (go_simp; rfl)); intro gb256 hg w11 hbox hb; have n0_ := zab.mk (Kd.zco (by (with_reducible repeat (first | apply Kd.zbn | apply Kd.zbm | apply Kd.zbH)); exact HO250.out) hb); have n1_ := zab.mk (Kd.zco (by (with_reducible repeat (first | apply Kd.zbn | apply Kd.zbm | apply Kd.zbH)); exact HO253.out) hb); have n2_ := zab.mk (zak (by repeat (first | (with_reducible first | exact HB.out | apply zac | apply zaa | apply zad) | exact HB.out)) hb); have n3_ := zab.mk (hbox); have n4_ := zab.mk ((by rw [hg]; exact (zan (by repeat (first | (with_reducible first | exact HB.out | apply zac | apply zaa | apply zad) | exact HB.out))) : w.heap.size ≤ gb256)); have n5_ := zab.mk ((by rw [hg]; exact (zan (by repeat (first | (with_reducible first | exact HB.out | apply zac | apply zaa | apply zad) | exact HB.out))) : w.heap.size ≤ gb256)); clear HO250; clear HO253; clear HB; have HO250 := n0_; have HO253 := n1_; have HB := n2_; have BK256 := n3_; have GW256 := n4_; have GE256 := n5_; clear n0_ n1_ n2_ n3_ n4_ n5_; clear hb hbox hg; obtain ⟨Ao12, co12, eo12⟩ := Kd.zbu HO253.out; subst eo12; have hcz13_0 : w11.cell? ⟨gb256, 0, none⟩ = some (.slice none 0 0) := (zah BK256.out 0).trans rfl; have hfz13_0 := zae BK256.out 0) | ((with_reducible refine gate_store (t := 24) (p := 1) rfl ?_); refine store_event (t := 24) (p := 1) (v := ?vo_w14) (w1 := (w11.setCell ⟨gb256, 0, none⟩ (.slice Ao12 t251.length co12))) ?hg ?ho ?hn ?hr ?_; (case ho => rfl); (case hg => rfl); (case hn => rfl); (case hr => first | (go_simp; done) | (go_simp; rfl)); intro w14 hw; have n0_ : zab (Kd.S k45 45 w14 w.heap.size (fun k_ => some k_ ≠ (.slice Ao12 t251.length co12 : Value).ownBlock) (.slice Ao9 t248.length co9) t248) := ⟨(by rw [hw]; exact (by (with_reducible repeat (first | apply Kd.zbn | apply Kd.zbm | apply Kd.zbH)); exact Kd.zby (Kd.S_far (p := ⟨gb256, 0, none⟩) (Kd.S_types HO250.out BK256.out (by decide)) (fun _ hk => hk.2) (.slice Ao12 t251.length co12)) (fun _ hk => hk.1.2)))⟩; have n1_ : zab (Kd.S k45 45 w14 w.heap.size (fun k_ => some k_ ≠ (.slice Ao9 t248.length co9 : Value).ownBlock) (.slice Ao12 t251.length co12) t251) := ⟨(by rw [hw]; exact (by (with_reducible repeat (first | apply Kd.zbn | apply Kd.zbm | apply Kd.zbH)); exact Kd.zby (Kd.S_far (p := ⟨gb256, 0, none⟩) (Kd.S_types HO253.out BK256.out (by decide)) (fun _ hk => hk.2) (.slice Ao12 t251.length co12)) (fun _ hk => hk.1.2)))⟩; have n2_ : zab (w14.heap[gb256]? = some (.cells #[.slice Ao12 t251.length co12] 24 (0, 0))) := ⟨(by rw [hw]; exact (by (with_reducible repeat (first | refine zal ?_ _ | refine zam ?_ | refine zaj ?_ _)); refine zaU (cs := #[.slice none 0 0]) ?_ 0 _ rfl; (with_reducible repeat (first | refine zal ?_ _ | refine zam ?_ | refine zaj ?_ _)); exact BK256.out))⟩; have n3_ : zab (Below w.heap.size w w14) := ⟨(by rw [hw]; exact (by repeat (first | (with_reducible first | exact HB.out | apply zac | apply zaa | apply zad | refine zai ?_ GE256.out) | exact HB.out)))⟩; clear hw; clear HO250; clear HO253; clear BK256; clear HB; have HO250 := n0_; have HO253 := n1_; have BK256 := n2_; have HB := n3_; clear n0_ n1_ n2_ n3_) | ((with_reducible refine zaE (f := 10) rfl ?_); refine zbe (some 11) rfl rfl Try.func10 (by kernel_rfl) rfl #[.int .i64 t255] rfl (by (try simp only [List.map_toArray, List.map_cons, List.map_nil]); first | done | rfl | (simp only [List.length_drop, List.length_take]; rfl)) ?_; (with_reducible refine (zbc.calls t255 t257 _ A3.out).mono ?_); rintro e w' ⟨rfl, ⟨nd, rfl⟩⟩; refine ⟨_, rfl, ?_⟩; have hcz15_0 : w14.cell? ⟨gb256, 0, none⟩ = some (.slice Ao12 t251.length co12) := (zah BK256.out 0).trans rfl; have hfz15_0 := zae BK256.out 0; have p258 : 0 ≤ (1 : Int) := (by omega); have q258 : 1 < (t251.length : Int) := of_decide_eq_true (by first | (with_reducible assumption) | assumption); obtain ⟨ad258, A258_1, c258_1, A258_2, c258_2, e258, hx258_0, hx258_1, hx258_2, hx258_3, hx258_4, hx258_5, hl258_1, hi258_1, hl258_2, hi258_2⟩ := zbh (Kd.zce HO253.out).2.2 1 p258 q258; cases e258; obtain ⟨ce258, hce258, hMe258, hcc258⟩ := Kd.S_get HO253.out z45 1 p258 (by first | exact q258 | exact of_decide_eq_true (by first | (with_reducible assumption) | assumption) | (have e_ := (Kd.zce HO253.out).1; omega)); obtain ⟨ve258_1, ve258_2, rfl, ge258_1, ge258_2⟩ := k45_openM hMe258; have hv258_1 := hcc258 1 _ rfl; rw [zbl _ _ 1 (by omega)] at hv258_1; replace hv258_1 := Option.some.inj (hv258_1.symm.trans hx258_1); rw [hv258_1] at ge258_1; have HL258_1 := zab.mk (show Kd.R (Kd.int .u8) 5 _ _ _ _ ((zaf t251 1).f1) from ge258_1); clear hv258_1 ge258_1; have hv258_2 := hcc258 2 _ rfl; rw [zbl _ _ 2 (by omega)] at hv258_2; replace hv258_2 := Option.some.inj (hv258_2.symm.trans hx258_2); rw [hv258_2] at ge258_2; have HL258_2 := zab.mk (show Kd.R k66 66 _ _ _ _ ((zaf t251 1).f2) from ge258_2); clear hv258_2 ge258_2; clear hcc258 hce258; (try simp only [show (1 : Int).toNat = 1 from rfl, Nat.reduceMul, Nat.reduceEqDiff, Go.Addr.add, ↓reduceIte] at hx258_0); (try simp only [show (1 : Int).toNat = 1 from rfl, Nat.reduceMul, Nat.reduceEqDiff, Go.Addr.add, ↓reduceIte] at hx258_1); (try simp only [show (1 : Int).toNat = 1 from rfl, Nat.reduceMul, Nat.reduceEqDiff, Go.Addr.add, ↓reduceIte] at hx258_2); (try simp only [show (1 : Int).toNat = 1 from rfl, Nat.reduceMul, Nat.reduceEqDiff, Go.Addr.add, ↓reduceIte] at hx258_3); (try simp only [show (1 : Int).toNat = 1 from rfl, Nat.reduceMul, Nat.reduceEqDiff, Go.Addr.add, ↓reduceIte] at hx258_4); (try simp only [show (1 : Int).toNat = 1 from rfl, Nat.reduceMul, Nat.reduceEqDiff, Go.Addr.add, ↓reduceIte] at hx258_5); have qi258 : (1 < t251.length) = True := eq_true (by omega); (try rw [show ((1 : Int)).toNat = 1 from rfl] at hx258_0); (try rw [show 1 * 6 = 6 from rfl] at hx258_0); (try rw [show ((1 : Int)).toNat = 1 from rfl] at hx258_1); (try rw [show 1 * 6 = 6 from rfl] at hx258_1); (try rw [show ((1 : Int)).toNat = 1 from rfl] at hx258_2); (try rw [show 1 * 6 = 6 from rfl] at hx258_2); (try rw [show ((1 : Int)).toNat = 1 from rfl] at hx258_3); (try rw [show 1 * 6 = 6 from rfl] at hx258_3); (try rw [show ((1 : Int)).toNat = 1 from rfl] at hx258_4); (try rw [show 1 * 6 = 6 from rfl] at hx258_4); (try rw [show ((1 : Int)).toNat = 1 from rfl] at hx258_5); (try rw [show 1 * 6 = 6 from rfl] at hx258_5); have HR258_1 := zab.mk hi258_1; have HC258_1 := zab.mk hl258_1; clear hi258_1 hl258_1; have HR258_2 := zab.mk hi258_2; have HC258_2 := zab.mk hl258_2; clear hi258_2 hl258_2; replace p258 := eq_true p258; replace q258 := eq_true q258))
     go_ret
     exact ⟨by first | rfl | (simp [zar, zaq] <;> rfl) | (simp [*, zar, zaq] <;> rfl), by repeat (first | (with_reducible first | exact HB.out | apply zac | apply zaa | apply zad | refine zai ?_ GE256.out) | exact HB.out)⟩
    ·rw [if_neg c7] at H
     exact absurd H (by simp)
   ·rw [if_neg c6] at H
    have c6b0 : ((t251.length : Int) == 2) = false := beq_eq_false_iff_ne.mpr c6
    have c6b1 : ((t251.length : Int) != 2) = true := bne_iff_ne.mpr c6
    obtain rfl := Option.some.inj H
    go_enter Try.func16, Try.ntmps16
    go_wp2_with (first | ((with_reducible refine zaE (f := 39) rfl ?_); refine zbe (some 5) rfl rfl Try.func39 (by kernel_rfl) rfl #[] rfl (by (try simp only [List.map_toArray, List.map_cons, List.map_nil]); first | done | rfl | (simp only [List.length_drop, List.length_take]; rfl)) ?_; (with_reducible refine (tree_New.calls  t248 _ A1.out).mono ?_); rintro e w16 ⟨v249, rfl, ho0, hb⟩; refine ⟨_, rfl, ?_⟩; have n0_ := zab.mk (Kd.zbq ho0 (zan (by repeat (first | (with_reducible first | exact HB.out | apply zac | apply zaa | apply zad) | exact HB.out)))); have n1_ := zab.mk (zak (by repeat (first | (with_reducible first | exact HB.out | apply zac | apply zaa | apply zad) | exact HB.out)) hb); clear HB; have HO250 := n0_; have HB := n1_; clear n0_ n1_; (try clear hb); (try clear hb2); (try clear hk); (try clear hi); (try clear ho0); obtain ⟨Ao17, co17, eo17⟩ := Kd.zbu HO250.out; subst eo17) | ((with_reducible refine zaE (f := 26) rfl ?_); refine zbe (some 6) rfl rfl Try.func26 (by kernel_rfl) rfl #[.agg #[.slice Ao17 t248.length co17], .int .i64 0, .string (⟨#[97]⟩ : ByteArray), .int .i64 1, .string (⟨#[]⟩ : ByteArray), .int .i64 5] rfl (by (try simp only [List.map_toArray, List.map_cons, List.map_nil]); first | done | rfl | (simp only [List.length_drop, List.length_take]; rfl)) ?_; (with_reducible refine (zbo.calls k _ _ t248 0 (⟨#[97]⟩ : ByteArray) 1 (⟨#[]⟩ : ByteArray) 5 t251 t254 t255 _ ?side1 ?side2 A2.out).mono ?_); (case side1 => repeat (first | exact (Kd.zce HO250.out).2.2 | (with_reducible refine Kd.C_alloc ?_ _) | (with_reducible refine Kd.C_drewN ?_ _) | (with_reducible refine Kd.C_drew ?_))); (case side2 => exact (Kd.zce HO250.out).2.1); rintro e w18 ⟨v252, rfl, ho0, hb⟩; refine ⟨_, rfl, ?_⟩; have n0_ := zab.mk (Kd.S_elder' (by (with_reducible repeat (first | apply Kd.zbn | apply Kd.zbm | apply Kd.zbH)); exact HO250.out) (Kd.S_base ho0) hb); have n1_ := zab.mk (Kd.zbq (Kd.S_new' ho0 (Kd.S_lt (by (with_reducible repeat (first | apply Kd.zbn | apply Kd.zbm | apply Kd.zbH)); exact HO250.out))) (zan (by repeat (first | (with_reducible first | exact HB.out | apply zac | apply zaa | apply zad) | exact HB.out)))); have n2_ := zab.mk (zak (by repeat (first | (with_reducible first | exact HB.out | apply zac | apply zaa | apply zad) | exact HB.out)) hb); clear HO250; clear HB; have HO250 := n0_; have HO253 := n1_; have HB := n2_; clear n0_ n1_ n2_; (try clear hb); (try clear hb2); (try clear hk); (try clear hi); (try clear ho0)) | ((with_reducible refine zay (N := 1) rfl ?_); (try (refine zaN (by rfl) ?_; dsimp only)); refine zax ?hg (N := 1) ?hd (cs := #[.slice none 0 0]) (t := 24) ?hr ?_; (case hd => rfl); (case hg => rfl); (case hr => first | (go_simp; done) | (go_simp; rfl)); intro gb256 hg w19 hbox hb; have n0_ := zab.mk (Kd.zco (by (with_reducible repeat (first | apply Kd.zbn | apply Kd.zbm | apply Kd.zbH)); exact HO250.out) hb); have n1_ := zab.mk (Kd.zco (by (with_reducible repeat (first | apply Kd.zbn | apply Kd.zbm | apply Kd.zbH)); exact HO253.out) hb); have n2_ := zab.mk (zak (by repeat (first | (with_reducible first | exact HB.out | apply zac | apply zaa | apply zad) | exact HB.out)) hb); have n3_ := zab.mk (hbox); have n4_ := zab.mk ((by rw [hg]; exact (zan (by repeat (first | (with_reducible first | exact HB.out | apply zac | apply zaa | apply zad) | exact HB.out))) : w.heap.size ≤ gb256)); have n5_ := zab.mk ((by rw [hg]; exact (zan (by repeat (first | (with_reducible first | exact HB.out | apply zac | apply zaa | apply zad) | exact HB.out))) : w.heap.size ≤ gb256)); clear HO250; clear HO253; clear HB; have HO250 := n0_; have HO253 := n1_; have HB := n2_; have BK256 := n3_; have GW256 := n4_; have GE256 := n5_; clear n0_ n1_ n2_ n3_ n4_ n5_; clear hb hbox hg; obtain ⟨Ao20, co20, eo20⟩ := Kd.zbu HO253.out; subst eo20; have hcz21_0 : w19.cell? ⟨gb256, 0, none⟩ = some (.slice none 0 0) := (zah BK256.out 0).trans rfl; have hfz21_0 := zae BK256.out 0) | ((with_reducible refine zaE (f := 10) rfl ?_); refine zbe (some 11) rfl rfl Try.func10 (by kernel_rfl) rfl #[.int .i64 t255] rfl (by (try simp only [List.map_toArray, List.map_cons, List.map_nil]); first | done | rfl | (simp only [List.length_drop, List.length_take]; rfl)) ?_; (with_reducible refine (zbc.calls t255 t257 _ A3.out).mono ?_); rintro e w' ⟨rfl, ⟨nd, rfl⟩⟩; refine ⟨_, rfl, ?_⟩))
    go_ret
    exact ⟨by first | rfl | (simp [zar, zaq] <;> rfl) | (simp [*, zar, zaq] <;> rfl), by repeat (first | (with_reducible first | exact HB.out | apply zac | apply zaa | apply zad | refine zai ?_ GE256.out) | exact HB.out)⟩
  ·rw [if_neg c5] at H
   have c5b0 : (t254 == 1) = false := beq_eq_false_iff_ne.mpr c5
   have c5b1 : (t254 != 1) = true := bne_iff_ne.mpr c5
   obtain rfl := Option.some.inj H
   go_enter Try.func16, Try.ntmps16
   go_wp2_with (first | ((with_reducible refine zaE (f := 39) rfl ?_); refine zbe (some 5) rfl rfl Try.func39 (by kernel_rfl) rfl #[] rfl (by (try simp only [List.map_toArray, List.map_cons, List.map_nil]); first | done | rfl | (simp only [List.length_drop, List.length_take]; rfl)) ?_; (with_reducible refine (tree_New.calls  t248 _ A1.out).mono ?_); rintro e w22 ⟨v249, rfl, ho0, hb⟩; refine ⟨_, rfl, ?_⟩; have n0_ := zab.mk (Kd.zbq ho0 (zan (by repeat (first | (with_reducible first | exact HB.out | apply zac | apply zaa | apply zad) | exact HB.out)))); have n1_ := zab.mk (zak (by repeat (first | (with_reducible first | exact HB.out | apply zac | apply zaa | apply zad) | exact HB.out)) hb); clear HB; have HO250 := n0_; have HB := n1_; clear n0_ n1_; (try clear hb); (try clear hb2); (try clear hk); (try clear hi); (try clear ho0); obtain ⟨Ao23, co23, eo23⟩ := Kd.zbu HO250.out; subst eo23) | ((with_reducible refine zaE (f := 26) rfl ?_); refine zbe (some 6) rfl rfl Try.func26 (by kernel_rfl) rfl #[.agg #[.slice Ao23 t248.length co23], .int .i64 0, .string (⟨#[97]⟩ : ByteArray), .int .i64 1, .string (⟨#[]⟩ : ByteArray), .int .i64 5] rfl (by (try simp only [List.map_toArray, List.map_cons, List.map_nil]); first | done | rfl | (simp only [List.length_drop, List.length_take]; rfl)) ?_; (with_reducible refine (zbo.calls k _ _ t248 0 (⟨#[97]⟩ : ByteArray) 1 (⟨#[]⟩ : ByteArray) 5 t251 t254 t255 _ ?side1 ?side2 A2.out).mono ?_); (case side1 => repeat (first | exact (Kd.zce HO250.out).2.2 | (with_reducible refine Kd.C_alloc ?_ _) | (with_reducible refine Kd.C_drewN ?_ _) | (with_reducible refine Kd.C_drew ?_))); (case side2 => exact (Kd.zce HO250.out).2.1); rintro e w24 ⟨v252, rfl, ho0, hb⟩; refine ⟨_, rfl, ?_⟩; have n0_ := zab.mk (Kd.S_elder' (by (with_reducible repeat (first | apply Kd.zbn | apply Kd.zbm | apply Kd.zbH)); exact HO250.out) (Kd.S_base ho0) hb); have n1_ := zab.mk (Kd.zbq (Kd.S_new' ho0 (Kd.S_lt (by (with_reducible repeat (first | apply Kd.zbn | apply Kd.zbm | apply Kd.zbH)); exact HO250.out))) (zan (by repeat (first | (with_reducible first | exact HB.out | apply zac | apply zaa | apply zad) | exact HB.out)))); have n2_ := zab.mk (zak (by repeat (first | (with_reducible first | exact HB.out | apply zac | apply zaa | apply zad) | exact HB.out)) hb); clear HO250; clear HB; have HO250 := n0_; have HO253 := n1_; have HB := n2_; clear n0_ n1_ n2_; (try clear hb); (try clear hb2); (try clear hk); (try clear hi); (try clear ho0)) | ((with_reducible refine zay (N := 1) rfl ?_); (try (refine zaN (by rfl) ?_; dsimp only)); refine zax ?hg (N := 1) ?hd (cs := #[.slice none 0 0]) (t := 24) ?hr ?_; (case hd => rfl); (case hg => rfl); (case hr => first | (go_simp; done) | (go_simp; rfl)); intro gb256 hg w25 hbox hb; have n0_ := zab.mk (Kd.zco (by (with_reducible repeat (first | apply Kd.zbn | apply Kd.zbm | apply Kd.zbH)); exact HO250.out) hb); have n1_ := zab.mk (Kd.zco (by (with_reducible repeat (first | apply Kd.zbn | apply Kd.zbm | apply Kd.zbH)); exact HO253.out) hb); have n2_ := zab.mk (zak (by repeat (first | (with_reducible first | exact HB.out | apply zac | apply zaa | apply zad) | exact HB.out)) hb); have n3_ := zab.mk (hbox); have n4_ := zab.mk ((by rw [hg]; exact (zan (by repeat (first | (with_reducible first | exact HB.out | apply zac | apply zaa | apply zad) | exact HB.out))) : w.heap.size ≤ gb256)); have n5_ := zab.mk ((by rw [hg]; exact (zan (by repeat (first | (with_reducible first | exact HB.out | apply zac | apply zaa | apply zad) | exact HB.out))) : w.heap.size ≤ gb256)); clear HO250; clear HO253; clear HB; have HO250 := n0_; have HO253 := n1_; have HB := n2_; have BK256 := n3_; have GW256 := n4_; have GE256 := n5_; clear n0_ n1_ n2_ n3_ n4_ n5_; clear hb hbox hg; obtain ⟨Ao26, co26, eo26⟩ := Kd.zbu HO253.out; subst eo26; have hcz27_0 : w25.cell? ⟨gb256, 0, none⟩ = some (.slice none 0 0) := (zah BK256.out 0).trans rfl; have hfz27_0 := zae BK256.out 0) | ((with_reducible refine zaE (f := 10) rfl ?_); refine zbe (some 11) rfl rfl Try.func10 (by kernel_rfl) rfl #[.int .i64 t255] rfl (by (try simp only [List.map_toArray, List.map_cons, List.map_nil]); first | done | rfl | (simp only [List.length_drop, List.length_take]; rfl)) ?_; (with_reducible refine (zbc.calls t255 t257 _ A3.out).mono ?_); rintro e w' ⟨rfl, ⟨nd, rfl⟩⟩; refine ⟨_, rfl, ?_⟩))
   go_ret
   exact ⟨by first | rfl | (simp [zar, zaq] <;> rfl) | (simp [*, zar, zaq] <;> rfl), by repeat (first | (with_reducible first | exact HB.out | apply zac | apply zaa | apply zad | refine zai ?_ GE256.out) | exact HB.out)⟩
 ·rw [if_neg c4] at H
  have c4b0 : (t257 == 0) = false := beq_eq_false_iff_ne.mpr c4
  have c4b1 : (t257 != 0) = true := bne_iff_ne.mpr c4
  obtain rfl := Option.some.inj H
  go_enter Try.func16, Try.ntmps16
  go_wp2_with (first | ((with_reducible refine zaE (f := 39) rfl ?_); refine zbe (some 5) rfl rfl Try.func39 (by kernel_rfl) rfl #[] rfl (by (try simp only [List.map_toArray, List.map_cons, List.map_nil]); first | done | rfl | (simp only [List.length_drop, List.length_take]; rfl)) ?_; (with_reducible refine (tree_New.calls  t248 _ A1.out).mono ?_); rintro e w28 ⟨v249, rfl, ho0, hb⟩; refine ⟨_, rfl, ?_⟩; have n0_ := zab.mk (Kd.zbq ho0 (zan (by repeat (first | (with_reducible first | exact HB.out | apply zac | apply zaa | apply zad) | exact HB.out)))); have n1_ := zab.mk (zak (by repeat (first | (with_reducible first | exact HB.out | apply zac | apply zaa | apply zad) | exact HB.out)) hb); clear HB; have HO250 := n0_; have HB := n1_; clear n0_ n1_; (try clear hb); (try clear hb2); (try clear hk); (try clear hi); (try clear ho0); obtain ⟨Ao29, co29, eo29⟩ := Kd.zbu HO250.out; subst eo29) | ((with_reducible refine zaE (f := 26) rfl ?_); refine zbe (some 6) rfl rfl Try.func26 (by kernel_rfl) rfl #[.agg #[.slice Ao29 t248.length co29], .int .i64 0, .string (⟨#[97]⟩ : ByteArray), .int .i64 1, .string (⟨#[]⟩ : ByteArray), .int .i64 5] rfl (by (try simp only [List.map_toArray, List.map_cons, List.map_nil]); first | done | rfl | (simp only [List.length_drop, List.length_take]; rfl)) ?_; (with_reducible refine (zbo.calls k _ _ t248 0 (⟨#[97]⟩ : ByteArray) 1 (⟨#[]⟩ : ByteArray) 5 t251 t254 t255 _ ?side1 ?side2 A2.out).mono ?_); (case side1 => repeat (first | exact (Kd.zce HO250.out).2.2 | (with_reducible refine Kd.C_alloc ?_ _) | (with_reducible refine Kd.C_drewN ?_ _) | (with_reducible refine Kd.C_drew ?_))); (case side2 => exact (Kd.zce HO250.out).2.1); rintro e w30 ⟨v252, rfl, ho0, hb⟩; refine ⟨_, rfl, ?_⟩; have n0_ := zab.mk (Kd.S_elder' (by (with_reducible repeat (first | apply Kd.zbn | apply Kd.zbm | apply Kd.zbH)); exact HO250.out) (Kd.S_base ho0) hb); have n1_ := zab.mk (Kd.zbq (Kd.S_new' ho0 (Kd.S_lt (by (with_reducible repeat (first | apply Kd.zbn | apply Kd.zbm | apply Kd.zbH)); exact HO250.out))) (zan (by repeat (first | (with_reducible first | exact HB.out | apply zac | apply zaa | apply zad) | exact HB.out)))); have n2_ := zab.mk (zak (by repeat (first | (with_reducible first | exact HB.out | apply zac | apply zaa | apply zad) | exact HB.out)) hb); clear HO250; clear HB; have HO250 := n0_; have HO253 := n1_; have HB := n2_; clear n0_ n1_ n2_; (try clear hb); (try clear hb2); (try clear hk); (try clear hi); (try clear ho0)) | ((with_reducible refine zay (N := 1) rfl ?_); (try (refine zaN (by rfl) ?_; dsimp only)); refine zax ?hg (N := 1) ?hd (cs := #[.slice none 0 0]) (t := 24) ?hr ?_; (case hd => rfl); (case hg => rfl); (case hr => first | (go_simp; done) | (go_simp; rfl)); intro gb256 hg w31 hbox hb; have n0_ := zab.mk (Kd.zco (by (with_reducible repeat (first | apply Kd.zbn | apply Kd.zbm | apply Kd.zbH)); exact HO250.out) hb); have n1_ := zab.mk (Kd.zco (by (with_reducible repeat (first | apply Kd.zbn | apply Kd.zbm | apply Kd.zbH)); exact HO253.out) hb); have n2_ := zab.mk (zak (by repeat (first | (with_reducible first | exact HB.out | apply zac | apply zaa | apply zad) | exact HB.out)) hb); have n3_ := zab.mk (hbox); have n4_ := zab.mk ((by rw [hg]; exact (zan (by repeat (first | (with_reducible first | exact HB.out | apply zac | apply zaa | apply zad) | exact HB.out))) : w.heap.size ≤ gb256)); have n5_ := zab.mk ((by rw [hg]; exact (zan (by repeat (first | (with_reducible first | exact HB.out | apply zac | apply zaa | apply zad) | exact HB.out))) : w.heap.size ≤ gb256)); clear HO250; clear HO253; clear HB; have HO250 := n0_; have HO253 := n1_; have HB := n2_; have BK256 := n3_; have GW256 := n4_; have GE256 := n5_; clear n0_ n1_ n2_ n3_ n4_ n5_; clear hb hbox hg; obtain ⟨Ao32, co32, eo32⟩ := Kd.zbu HO253.out; subst eo32; have hcz33_0 : w31.cell? ⟨gb256, 0, none⟩ = some (.slice none 0 0) := (zah BK256.out 0).trans rfl; have hfz33_0 := zae BK256.out 0) | ((with_reducible refine zaE (f := 10) rfl ?_); refine zbe (some 11) rfl rfl Try.func10 (by kernel_rfl) rfl #[.int .i64 t255] rfl (by (try simp only [List.map_toArray, List.map_cons, List.map_nil]); first | done | rfl | (simp only [List.length_drop, List.length_take]; rfl)) ?_; (with_reducible refine (zbc.calls t255 t257 _ A3.out).mono ?_); rintro e w' ⟨rfl, ⟨nd, rfl⟩⟩; refine ⟨_, rfl, ?_⟩))
  go_ret
  exact ⟨by first | rfl | (simp [zar, zaq] <;> rfl) | (simp [*, zar, zaq] <;> rfl), by repeat (first | (with_reducible first | exact HB.out | apply zac | apply zaa | apply zad | refine zai ?_ GE256.out) | exact HB.out)⟩
theorem fits_of {l : List S45} (h : ok24 l) : l.length < 1599289640401 ∧ Fits l := by
 obtain ⟨h1, h2, h3⟩ := h
 refine ⟨by omega, fun x hx => ?_⟩
 obtain ⟨_, ⟨_, a1, _⟩, ⟨_, a2, a3⟩, a4, _⟩ := h3 x hx
 exact ⟨⟨by omega, by omega⟩, fun z hz => by have := (a3 z hz).1; omega, by omega⟩
theorem Fits.n {l : List S45} (h : Fits l) : ∀ x ∈ l, FitsN x := fun x hx => (h x hx).1
theorem large_l0 (l : List S45) (hm : l.length < 9223372036854775807) : ∀ (d i : Nat) (n : Int), i + d = l.length → ∃ b, Ev (fun k => zaK.l0 k n (i : Int) l) b
 | 0, i, n, h => ⟨_, Ev.step (f := fun _ => some (decide (n > 60000))) (fun k => by rw [zaK.l0, if_neg (by omega)]) (Ev.now _)⟩
 | d + 1, i, n, h => by
  obtain ⟨b, hb⟩ := large_l0 l hm d (i + 1) (wrap64 ((wrap64 ((wrap64 (n + (wrap64 (30 * (((zaf l (i : Int)).f2).length : Int))))) + (((zaf l (i : Int)).f1).length : Int))) + (((zaf l (i : Int)).f3).size : Int))) (by omega)
  refine ⟨b, Ev.step (fun k => ?_) hb⟩
  rw [zaK.l0, if_pos (by omega), if_pos (by omega), up64 (by omega)]
theorem large_ev (l : List S45) (hm : l.length < 9223372036854775807) : ∃ b, Ev (fun k => zaK.f k l) b ∧ (b = false → l.length ≤ 100) := by
 by_cases h : (l.length : Int) > 100
 ·exact ⟨true, Ev.congr (fun k => by unfold zaK.f; rw [if_pos h]) (Ev.now true), fun h => by (cases h)⟩
 ·obtain ⟨b, hb⟩ := large_l0 l hm l.length 0 0 (by omega)
  exact ⟨b, Ev.congr (fun k => by unfold zaK.f; rw [if_neg h]; rfl) hb, fun _ => by omega⟩
theorem heavy_l0 (l : List S45) (hm : l.length < 9223372036854775807) (q : List S38) (hq : q.length < 9223372036854775807) : ∀ (d i : Nat) (n : Int), i + d = q.length → ∃ b, Ev (fun k => zaT.l0 k n (i : Int) l q) b ∧ (b = false → l.length ≤ 100) := by
 obtain ⟨b, hb, hb2⟩ := large_ev l hm
 have fin : ∀ n : Int, ∃ b', Ev (fun k => if n > 40000 then some true else (zaK.f k l).bind fun t => some t) b' ∧ (b' = false → l.length ≤ 100) := fun n => by
  by_cases h : n > 40000
  ·exact ⟨true, Ev.congr (fun k => if_pos h) (Ev.now true), fun h => by (cases h)⟩
  ·exact ⟨b, Ev.congr (fun k => if_neg h) (Ev.bind (f := fun _ t => some t) hb (Ev.now b)), hb2⟩
 intro d
 induction d with
 | zero =>
  intro i n h
  obtain ⟨b', h1, h2⟩ := fin n
  exact ⟨b', Ev.step (fun k => by rw [zaT.l0, if_neg (by omega)]) h1, h2⟩
 | succ d ih =>
  intro i n h
  by_cases h14 : (i : Int) < 14
  ·obtain ⟨b', h1, h2⟩ := ih (i + 1) (wrap64 ((wrap64 ((wrap64 (n + (((zaG q (i : Int)).f10).length : Int))) + (((zaG q (i : Int)).f4).size : Int))) + (((zaG q (i : Int)).f5).size : Int))) (by omega)
   exact ⟨b', Ev.step (fun k => by rw [zaT.l0, if_pos (by omega), if_pos h14, if_pos (by omega), up64 (by omega)]) h1, h2⟩
  ·obtain ⟨b', h1, h2⟩ := fin n
   exact ⟨b', Ev.step (fun k => by rw [zaT.l0, if_pos (by omega), if_neg h14]) h1, h2⟩
theorem heavy_ev (l : List S45) (hm : l.length < 9223372036854775807) (q : List S38) (hq : q.length < 9223372036854775807) : ∃ b, Ev (fun k => zaT.f k l q) b ∧ (b = false → l.length ≤ 100) := heavy_l0 l hm q hq q.length 0 0 (by omega)
theorem wakes_70 : za1.f 70 = some true := by kernel_rfl
theorem wakes_ev : Ev (fun k => za1.f k) true := Ev.of (fun k => za1.mono k) wakes_70
theorem ev_all {P : Nat → Nat → Prop} (hm : ∀ i, ∃ K, ∀ k, K ≤ k → P i k) : ∀ n : Nat, ∃ K, ∀ k, K ≤ k → ∀ i, i < n → P i k
 | 0 => ⟨0, fun _ _ i h => by omega⟩
 | n + 1 => by
  obtain ⟨K, hK⟩ := ev_all hm n
  obtain ⟨K', hK'⟩ := hm n
  refine ⟨max K K', fun k hk i hi => ?_⟩
  by_cases e : i = n
  ·subst e; exact hK' k (by omega)
  ·exact hK k (by omega) i (by omega)
def zbb.f (k : Nat) (l0_0 : List (S45)) (a1 : Int) (a2 : ByteArray) : Option (Int × Int) := (za3.f l0_0 a1).bind fun t347 => (if t347 = true then ((zaD.f k a2).bind fun t348 => (if t348 = 0 then ((zaW.f l0_0 a1 a2).bind fun bt349 => (if bt349.2 = true then (if 0 ≤ a1 then (if a1 < (l0_0.length : Int) then (if 0 ≤ bt349.1 then (if bt349.1 < (((zaf l0_0 a1).f2).length : Int) then (some ((zat ((zaf l0_0 a1).f2) bt349.1).f1, 0)) else (none)) else (none)) else (none)) else (none)) else (some (0, 44)))) else (some (0, t348)))) else (some (0, 54)))
set_option maxHeartbeats 8000000 in
set_option maxRecDepth 100000 in
theorem zbb.calls (k : Nat) (A0_0 : Option Addr) (c0_0 : Nat) (l0_0 : List (S45)) (a1 : Int) (a2 : ByteArray) (r1 : Int) (r2 : Int) (w : World) (hr0_0 : Kd.C k45 w A0_0 l0_0.length l0_0) (hc0_0 : l0_0.length ≤ c0_0) (h : zbb.f k l0_0 a1 a2 = some (r1, r2)) :
  Calls Try.prog 53 #[.agg #[.slice A0_0 l0_0.length c0_0], .int .i64 a1, .string a2] w fun e w' => e = .returned (.tuple #[.int .i64 r1, .int .i64 r2]) ∧ Below w.heap.size w w' := by
 have hu24 := Try.underlying24
 have HR0_0 := zab.mk hr0_0
 have HC0_0 := zab.mk hc0_0
 clear hr0_0 hc0_0
 have HB := zab.mk (Below.refl w.heap.size w)
 have H : ((za3.f l0_0 a1).bind fun t347 => (if t347 = true then ((zaD.f k a2).bind fun t348 => (if t348 = 0 then ((zaW.f l0_0 a1 a2).bind fun bt349 => (if bt349.2 = true then (if 0 ≤ a1 then (if a1 < (l0_0.length : Int) then (if 0 ≤ bt349.1 then (if bt349.1 < (((zaf l0_0 a1).f2).length : Int) then (some ((zat ((zaf l0_0 a1).f2) bt349.1).f1, 0)) else (none)) else (none)) else (none)) else (none)) else (some (0, 44)))) else (some (0, t348)))) else (some (0, 54)))) = some (r1, r2) := h
 clear h
 replace H := Option.bind_eq_some_iff.mp H
 obtain ⟨t347, A40, H⟩ := H
 replace H : (if t347 = true then ((zaD.f k a2).bind fun t348 => (if t348 = 0 then ((zaW.f l0_0 a1 a2).bind fun bt349 => (if bt349.2 = true then (if 0 ≤ a1 then (if a1 < (l0_0.length : Int) then (if 0 ≤ bt349.1 then (if bt349.1 < (((zaf l0_0 a1).f2).length : Int) then (some ((zat ((zaf l0_0 a1).f2) bt349.1).f1, 0)) else (none)) else (none)) else (none)) else (none)) else (some (0, 44)))) else (some (0, t348)))) else (some (0, 54))) = some (r1, r2) := H
 have A4 := zab.mk A40
 clear A40
 by_cases c5 : t347 = true
 ·subst c5
  have H1 : ((zaD.f k a2).bind fun t348 => (if t348 = 0 then ((zaW.f l0_0 a1 a2).bind fun bt349 => (if bt349.2 = true then (if 0 ≤ a1 then (if a1 < (l0_0.length : Int) then (if 0 ≤ bt349.1 then (if bt349.1 < (((zaf l0_0 a1).f2).length : Int) then (some ((zat ((zaf l0_0 a1).f2) bt349.1).f1, 0)) else (none)) else (none)) else (none)) else (none)) else (some (0, 44)))) else (some (0, t348)))) = some (r1, r2) := by rw [if_pos rfl] at H; exact H
  clear H
  have H := H1
  clear H1
  replace H := Option.bind_eq_some_iff.mp H
  obtain ⟨t348, A60, H⟩ := H
  replace H : (if t348 = 0 then ((zaW.f l0_0 a1 a2).bind fun bt349 => (if bt349.2 = true then (if 0 ≤ a1 then (if a1 < (l0_0.length : Int) then (if 0 ≤ bt349.1 then (if bt349.1 < (((zaf l0_0 a1).f2).length : Int) then (some ((zat ((zaf l0_0 a1).f2) bt349.1).f1, 0)) else (none)) else (none)) else (none)) else (none)) else (some (0, 44)))) else (some (0, t348))) = some (r1, r2) := H
  have A6 := zab.mk A60
  clear A60
  by_cases c7 : t348 = 0
  ·rw [if_pos c7] at H
   have c7b0 : (t348 == 0) = true := beq_iff_eq.mpr c7
   have c7b1 : (t348 != 0) = false := bne_eq_false_iff_eq.mpr c7
   clear c7
   replace H := Option.bind_eq_some_iff.mp H
   obtain ⟨⟨t349, t350⟩, A80, H⟩ := H
   replace H : (if t350 = true then (if 0 ≤ a1 then (if a1 < (l0_0.length : Int) then (if 0 ≤ t349 then (if t349 < (((zaf l0_0 a1).f2).length : Int) then (some ((zat ((zaf l0_0 a1).f2) t349).f1, 0)) else (none)) else (none)) else (none)) else (none)) else (some (0, 44))) = some (r1, r2) := H
   have A8 := zab.mk A80
   clear A80
   by_cases c9 : t350 = true
   ·subst c9
    have H1 : (if 0 ≤ a1 then (if a1 < (l0_0.length : Int) then (if 0 ≤ t349 then (if t349 < (((zaf l0_0 a1).f2).length : Int) then (some ((zat ((zaf l0_0 a1).f2) t349).f1, 0)) else (none)) else (none)) else (none)) else (none)) = some (r1, r2) := by rw [if_pos rfl] at H; exact H
    clear H
    have H := H1
    clear H1
    by_cases c10 : 0 ≤ a1
    ·rw [if_pos c10] at H
     have c10b0 : decide (0 ≤ a1) = true := decide_eq_true c10
     clear c10
     by_cases c11 : a1 < (l0_0.length : Int)
     ·rw [if_pos c11] at H
      have c11b0 : decide (a1 < (l0_0.length : Int)) = true := decide_eq_true c11
      clear c11
      by_cases c12 : 0 ≤ t349
      ·rw [if_pos c12] at H
       have c12b0 : decide (0 ≤ t349) = true := decide_eq_true c12
       clear c12
       by_cases c13 : t349 < (((zaf l0_0 a1).f2).length : Int)
       ·rw [if_pos c13] at H
        have c13b0 : decide (t349 < (((zaf l0_0 a1).f2).length : Int)) = true := decide_eq_true c13
        clear c13
        simp only [Option.some.injEq, Prod.mk.injEq] at H
        obtain ⟨rfl, rfl⟩ := H
        go_enter Try.func53, Try.ntmps53
        go_wp2_with (first | ((with_reducible refine zay (N := 3) rfl ?_); refine zax ?hg (N := 3) ?hd (cs := #[.slice A0_0 l0_0.length c0_0]) (t := 24) ?hr ?_; (case hd => rfl); (case hg => rfl); (case hr => first | (go_simp; done) | (go_simp; rfl)); intro gb346 hg w14 hbox hb; have n0_ := zab.mk (zak (by repeat (first | (with_reducible first | exact HB.out | apply zac | apply zaa | apply zad) | exact HB.out)) hb); have n1_ := zab.mk (hbox); have n2_ := zab.mk ((by rw [hg]; exact (zan (by repeat (first | (with_reducible first | exact HB.out | apply zac | apply zaa | apply zad) | exact HB.out))) : w.heap.size ≤ gb346)); have n3_ := zab.mk ((by rw [hg]; exact (zan (by repeat (first | (with_reducible first | exact HB.out | apply zac | apply zaa | apply zad) | exact HB.out))) : w.heap.size ≤ gb346)); clear HB; have HB := n0_; have BK346 := n1_; have GW346 := n2_; have GE346 := n3_; clear n0_ n1_ n2_ n3_; clear hb hbox hg; have hcz15_0 : w14.cell? ⟨gb346, 0, none⟩ = some (.slice A0_0 l0_0.length c0_0) := (zah BK346.out 0).trans rfl; have hfz15_0 := zae BK346.out 0) | ((with_reducible refine zaE (f := 56) rfl ?_); refine zbe (some 13) rfl rfl Try.func56 (by kernel_rfl) rfl #[.agg #[.slice A0_0 l0_0.length c0_0], .int .i64 a1] rfl (by (try simp only [List.map_toArray, List.map_cons, List.map_nil]); first | done | rfl | (simp only [List.length_drop, List.length_take]; rfl)) ?_; (with_reducible refine (za3.calls _ _ l0_0 a1 true _ ?side1 ?side2 A4.out).mono ?_); (case side1 => repeat (first | exact (Kd.C_below HR0_0.out HB.out) | (with_reducible refine Kd.C_alloc ?_ _) | (with_reducible refine Kd.C_drewN ?_ _) | (with_reducible refine Kd.C_drew ?_))); (case side2 => exact HC0_0.out); rintro e w16 ⟨rfl, hb⟩; refine ⟨_, rfl, ?_⟩; have n0_ := zab.mk (zas (g := gb346) (o := .cells #[.slice A0_0 l0_0.length c0_0] 24 (0, 0)) (by (with_reducible repeat (first | refine zal ?_ _ | refine zam ?_ | refine zaj ?_ _)); exact BK346.out) hb); have n1_ := zab.mk (zak (by repeat (first | (with_reducible first | exact HB.out | apply zac | apply zaa | apply zad | refine zai ?_ GE346.out) | exact HB.out)) hb); clear BK346; clear HB; have BK346 := n0_; have HB := n1_; clear n0_ n1_; (try clear hb); (try clear hb2); (try clear hk); (try clear hi)) | ((with_reducible refine zaE (f := 14) rfl ?_); refine zbe (some 16) rfl rfl Try.func14 (by kernel_rfl) rfl #[.string a2] rfl (by (try simp only [List.map_toArray, List.map_cons, List.map_nil]); first | done | rfl | (simp only [List.length_drop, List.length_take]; rfl)) ?_; (with_reducible refine (zaD.calls k a2 t348 _ A6.out).mono ?_); rintro e w' ⟨rfl, ⟨nd, rfl⟩⟩; refine ⟨_, rfl, ?_⟩; have hcz17_0 : w16.cell? ⟨gb346, 0, none⟩ = some (.slice A0_0 l0_0.length c0_0) := (zah BK346.out 0).trans rfl; have hfz17_0 := zae BK346.out 0) | ((with_reducible refine zaE (f := 66) rfl ?_); refine zbe (some 24) rfl rfl Try.func66 (by kernel_rfl) rfl #[.agg #[.slice A0_0 l0_0.length c0_0], .int .i64 a1, .string a2] rfl (by (try simp only [List.map_toArray, List.map_cons, List.map_nil]); first | done | rfl | (simp only [List.length_drop, List.length_take]; rfl)) ?_; (with_reducible refine (zaW.calls _ _ l0_0 a1 a2 t349 true _ ?side1 ?side2 A8.out).mono ?_); (case side1 => repeat (first | exact (Kd.C_below HR0_0.out (by repeat (first | (with_reducible first | exact HB.out | apply zac | apply zaa | apply zad | refine zai ?_ GE346.out) | exact HB.out))) | (with_reducible refine Kd.C_alloc ?_ _) | (with_reducible refine Kd.C_drewN ?_ _) | (with_reducible refine Kd.C_drew ?_))); (case side2 => exact HC0_0.out); rintro e w18 ⟨rfl, hb⟩; refine ⟨_, rfl, ?_⟩; have n0_ := zab.mk (zas (g := gb346) (o := .cells #[.slice A0_0 l0_0.length c0_0] 24 (0, 0)) (by (with_reducible repeat (first | refine zal ?_ _ | refine zam ?_ | refine zaj ?_ _)); exact BK346.out) hb); have n1_ := zab.mk (zak (by repeat (first | (with_reducible first | exact HB.out | apply zac | apply zaa | apply zad | refine zai ?_ GE346.out) | exact HB.out)) hb); clear BK346; clear HB; have BK346 := n0_; have HB := n1_; clear n0_ n1_; (try clear hb); (try clear hb2); (try clear hk); (try clear hi); have hcz19_0 : w18.cell? ⟨gb346, 0, none⟩ = some (.slice A0_0 l0_0.length c0_0) := (zah BK346.out 0).trans rfl; have hfz19_0 := zae BK346.out 0; have p351 : 0 ≤ (a1 : Int) := of_decide_eq_true (by first | (with_reducible assumption) | assumption); have q351 : a1 < (l0_0.length : Int) := of_decide_eq_true (by first | (with_reducible assumption) | assumption); obtain ⟨ad351, A351_1, c351_1, A351_2, c351_2, e351, hx351_0, hx351_1, hx351_2, hx351_3, hx351_4, hx351_5, hl351_1, hi351_1, hl351_2, hi351_2⟩ := zbh HR0_0.out a1 p351 q351; cases e351; replace hx351_0 := (HB.out.cell (World.block_lt_of_cell? w _ hx351_0)).trans hx351_0; replace hx351_1 := (HB.out.cell (World.block_lt_of_cell? w _ hx351_1)).trans hx351_1; replace hx351_2 := (HB.out.cell (World.block_lt_of_cell? w _ hx351_2)).trans hx351_2; replace hx351_3 := (HB.out.cell (World.block_lt_of_cell? w _ hx351_3)).trans hx351_3; replace hx351_4 := (HB.out.cell (World.block_lt_of_cell? w _ hx351_4)).trans hx351_4; replace hx351_5 := (HB.out.cell (World.block_lt_of_cell? w _ hx351_5)).trans hx351_5; have HR351_1 := zab.mk hi351_1; have HC351_1 := zab.mk hl351_1; clear hi351_1 hl351_1; have HR351_2 := zab.mk hi351_2; have HC351_2 := zab.mk hl351_2; clear hi351_2 hl351_2; replace p351 := eq_true p351; replace q351 := eq_true q351; have p352 : 0 ≤ (t349 : Int) := of_decide_eq_true (by first | (with_reducible assumption) | assumption); have q352 : t349 < (((zaf l0_0 a1).f2).length : Int) := of_decide_eq_true (by first | (with_reducible assumption) | assumption); obtain ⟨ad352, e352, hx352_0, hx352_1⟩ := zb7 HR351_2.out t349 p352 q352; cases e352; replace hx352_0 := (HB.out.cell (World.block_lt_of_cell? w _ hx352_0)).trans hx352_0; replace hx352_1 := (HB.out.cell (World.block_lt_of_cell? w _ hx352_1)).trans hx352_1; replace p352 := eq_true p352; replace q352 := eq_true q352))
        go_ret2
        exact ⟨by first | rfl | (simp [zar, zaq] <;> rfl) | (simp [*, zar, zaq] <;> rfl), by repeat (first | (with_reducible first | exact HB.out | apply zac | apply zaa | apply zad | refine zai ?_ GE346.out) | exact HB.out)⟩
       ·rw [if_neg c13] at H
        exact absurd H (by simp)
      ·rw [if_neg c12] at H
       exact absurd H (by simp)
     ·rw [if_neg c11] at H
      exact absurd H (by simp)
    ·rw [if_neg c10] at H
     exact absurd H (by simp)
   ·replace c9 := Bool.eq_false_iff.mpr c9
    subst c9
    have H1 : (some (0, 44)) = some (r1, r2) := by rw [if_neg (show ¬ (false = true) by decide)] at H; exact H
    clear H
    have H := H1
    clear H1
    simp only [Option.some.injEq, Prod.mk.injEq] at H
    obtain ⟨rfl, rfl⟩ := H
    go_enter Try.func53, Try.ntmps53
    go_wp2_with (first | ((with_reducible refine zay (N := 3) rfl ?_); refine zax ?hg (N := 3) ?hd (cs := #[.slice A0_0 l0_0.length c0_0]) (t := 24) ?hr ?_; (case hd => rfl); (case hg => rfl); (case hr => first | (go_simp; done) | (go_simp; rfl)); intro gb346 hg w20 hbox hb; have n0_ := zab.mk (zak (by repeat (first | (with_reducible first | exact HB.out | apply zac | apply zaa | apply zad) | exact HB.out)) hb); have n1_ := zab.mk (hbox); have n2_ := zab.mk ((by rw [hg]; exact (zan (by repeat (first | (with_reducible first | exact HB.out | apply zac | apply zaa | apply zad) | exact HB.out))) : w.heap.size ≤ gb346)); have n3_ := zab.mk ((by rw [hg]; exact (zan (by repeat (first | (with_reducible first | exact HB.out | apply zac | apply zaa | apply zad) | exact HB.out))) : w.heap.size ≤ gb346)); clear HB; have HB := n0_; have BK346 := n1_; have GW346 := n2_; have GE346 := n3_; clear n0_ n1_ n2_ n3_; clear hb hbox hg; have hcz21_0 : w20.cell? ⟨gb346, 0, none⟩ = some (.slice A0_0 l0_0.length c0_0) := (zah BK346.out 0).trans rfl; have hfz21_0 := zae BK346.out 0) | ((with_reducible refine zaE (f := 56) rfl ?_); refine zbe (some 13) rfl rfl Try.func56 (by kernel_rfl) rfl #[.agg #[.slice A0_0 l0_0.length c0_0], .int .i64 a1] rfl (by (try simp only [List.map_toArray, List.map_cons, List.map_nil]); first | done | rfl | (simp only [List.length_drop, List.length_take]; rfl)) ?_; (with_reducible refine (za3.calls _ _ l0_0 a1 true _ ?side1 ?side2 A4.out).mono ?_); (case side1 => repeat (first | exact (Kd.C_below HR0_0.out HB.out) | (with_reducible refine Kd.C_alloc ?_ _) | (with_reducible refine Kd.C_drewN ?_ _) | (with_reducible refine Kd.C_drew ?_))); (case side2 => exact HC0_0.out); rintro e w22 ⟨rfl, hb⟩; refine ⟨_, rfl, ?_⟩; have n0_ := zab.mk (zas (g := gb346) (o := .cells #[.slice A0_0 l0_0.length c0_0] 24 (0, 0)) (by (with_reducible repeat (first | refine zal ?_ _ | refine zam ?_ | refine zaj ?_ _)); exact BK346.out) hb); have n1_ := zab.mk (zak (by repeat (first | (with_reducible first | exact HB.out | apply zac | apply zaa | apply zad | refine zai ?_ GE346.out) | exact HB.out)) hb); clear BK346; clear HB; have BK346 := n0_; have HB := n1_; clear n0_ n1_; (try clear hb); (try clear hb2); (try clear hk); (try clear hi)) | ((with_reducible refine zaE (f := 14) rfl ?_); refine zbe (some 16) rfl rfl Try.func14 (by kernel_rfl) rfl #[.string a2] rfl (by (try simp only [List.map_toArray, List.map_cons, List.map_nil]); first | done | rfl | (simp only [List.length_drop, List.length_take]; rfl)) ?_; (with_reducible refine (zaD.calls k a2 t348 _ A6.out).mono ?_); rintro e w' ⟨rfl, ⟨nd, rfl⟩⟩; refine ⟨_, rfl, ?_⟩; have hcz23_0 : w22.cell? ⟨gb346, 0, none⟩ = some (.slice A0_0 l0_0.length c0_0) := (zah BK346.out 0).trans rfl; have hfz23_0 := zae BK346.out 0) | ((with_reducible refine zaE (f := 66) rfl ?_); refine zbe (some 24) rfl rfl Try.func66 (by kernel_rfl) rfl #[.agg #[.slice A0_0 l0_0.length c0_0], .int .i64 a1, .string a2] rfl (by (try simp only [List.map_toArray, List.map_cons, List.map_nil]); first | done | rfl | (simp only [List.length_drop, List.length_take]; rfl)) ?_; (with_reducible refine (zaW.calls _ _ l0_0 a1 a2 t349 false _ ?side1 ?side2 A8.out).mono ?_); (case side1 => repeat (first | exact (Kd.C_below HR0_0.out (by repeat (first | (with_reducible first | exact HB.out | apply zac | apply zaa | apply zad | refine zai ?_ GE346.out) | exact HB.out))) | (with_reducible refine Kd.C_alloc ?_ _) | (with_reducible refine Kd.C_drewN ?_ _) | (with_reducible refine Kd.C_drew ?_))); (case side2 => exact HC0_0.out); rintro e w24 ⟨rfl, hb⟩; refine ⟨_, rfl, ?_⟩; have n0_ := zab.mk (zas (g := gb346) (o := .cells #[.slice A0_0 l0_0.length c0_0] 24 (0, 0)) (by (with_reducible repeat (first | refine zal ?_ _ | refine zam ?_ | refine zaj ?_ _)); exact BK346.out) hb); have n1_ := zab.mk (zak (by repeat (first | (with_reducible first | exact HB.out | apply zac | apply zaa | apply zad | refine zai ?_ GE346.out) | exact HB.out)) hb); clear BK346; clear HB; have BK346 := n0_; have HB := n1_; clear n0_ n1_; (try clear hb); (try clear hb2); (try clear hk); (try clear hi)))
    go_ret2
    exact ⟨by first | rfl | (simp [zar, zaq] <;> rfl) | (simp [*, zar, zaq] <;> rfl), by repeat (first | (with_reducible first | exact HB.out | apply zac | apply zaa | apply zad | refine zai ?_ GE346.out) | exact HB.out)⟩
  ·rw [if_neg c7] at H
   have c7b0 : (t348 == 0) = false := beq_eq_false_iff_ne.mpr c7
   have c7b1 : (t348 != 0) = true := bne_iff_ne.mpr c7
   simp only [Option.some.injEq, Prod.mk.injEq] at H
   obtain ⟨rfl, rfl⟩ := H
   go_enter Try.func53, Try.ntmps53
   go_wp2_with (first | ((with_reducible refine zay (N := 3) rfl ?_); refine zax ?hg (N := 3) ?hd (cs := #[.slice A0_0 l0_0.length c0_0]) (t := 24) ?hr ?_; (case hd => rfl); (case hg => rfl); (case hr => first | (go_simp; done) | (go_simp; rfl)); intro gb346 hg w25 hbox hb; have n0_ := zab.mk (zak (by repeat (first | (with_reducible first | exact HB.out | apply zac | apply zaa | apply zad) | exact HB.out)) hb); have n1_ := zab.mk (hbox); have n2_ := zab.mk ((by rw [hg]; exact (zan (by repeat (first | (with_reducible first | exact HB.out | apply zac | apply zaa | apply zad) | exact HB.out))) : w.heap.size ≤ gb346)); have n3_ := zab.mk ((by rw [hg]; exact (zan (by repeat (first | (with_reducible first | exact HB.out | apply zac | apply zaa | apply zad) | exact HB.out))) : w.heap.size ≤ gb346)); clear HB; have HB := n0_; have BK346 := n1_; have GW346 := n2_; have GE346 := n3_; clear n0_ n1_ n2_ n3_; clear hb hbox hg; have hcz26_0 : w25.cell? ⟨gb346, 0, none⟩ = some (.slice A0_0 l0_0.length c0_0) := (zah BK346.out 0).trans rfl; have hfz26_0 := zae BK346.out 0) | ((with_reducible refine zaE (f := 56) rfl ?_); refine zbe (some 13) rfl rfl Try.func56 (by kernel_rfl) rfl #[.agg #[.slice A0_0 l0_0.length c0_0], .int .i64 a1] rfl (by (try simp only [List.map_toArray, List.map_cons, List.map_nil]); first | done | rfl | (simp only [List.length_drop, List.length_take]; rfl)) ?_; (with_reducible refine (za3.calls _ _ l0_0 a1 true _ ?side1 ?side2 A4.out).mono ?_); (case side1 => repeat (first | exact (Kd.C_below HR0_0.out HB.out) | (with_reducible refine Kd.C_alloc ?_ _) | (with_reducible refine Kd.C_drewN ?_ _) | (with_reducible refine Kd.C_drew ?_))); (case side2 => exact HC0_0.out); rintro e w27 ⟨rfl, hb⟩; refine ⟨_, rfl, ?_⟩; have n0_ := zab.mk (zas (g := gb346) (o := .cells #[.slice A0_0 l0_0.length c0_0] 24 (0, 0)) (by (with_reducible repeat (first | refine zal ?_ _ | refine zam ?_ | refine zaj ?_ _)); exact BK346.out) hb); have n1_ := zab.mk (zak (by repeat (first | (with_reducible first | exact HB.out | apply zac | apply zaa | apply zad | refine zai ?_ GE346.out) | exact HB.out)) hb); clear BK346; clear HB; have BK346 := n0_; have HB := n1_; clear n0_ n1_; (try clear hb); (try clear hb2); (try clear hk); (try clear hi)) | ((with_reducible refine zaE (f := 14) rfl ?_); refine zbe (some 16) rfl rfl Try.func14 (by kernel_rfl) rfl #[.string a2] rfl (by (try simp only [List.map_toArray, List.map_cons, List.map_nil]); first | done | rfl | (simp only [List.length_drop, List.length_take]; rfl)) ?_; (with_reducible refine (zaD.calls k a2 t348 _ A6.out).mono ?_); rintro e w' ⟨rfl, ⟨nd, rfl⟩⟩; refine ⟨_, rfl, ?_⟩))
   go_ret2
   exact ⟨by first | rfl | (simp [zar, zaq] <;> rfl) | (simp [*, zar, zaq] <;> rfl), by repeat (first | (with_reducible first | exact HB.out | apply zac | apply zaa | apply zad | refine zai ?_ GE346.out) | exact HB.out)⟩
 ·replace c5 := Bool.eq_false_iff.mpr c5
  subst c5
  have H1 : (some (0, 54)) = some (r1, r2) := by rw [if_neg (show ¬ (false = true) by decide)] at H; exact H
  clear H
  have H := H1
  clear H1
  simp only [Option.some.injEq, Prod.mk.injEq] at H
  obtain ⟨rfl, rfl⟩ := H
  go_enter Try.func53, Try.ntmps53
  go_wp2_with (first | ((with_reducible refine zay (N := 3) rfl ?_); refine zax ?hg (N := 3) ?hd (cs := #[.slice A0_0 l0_0.length c0_0]) (t := 24) ?hr ?_; (case hd => rfl); (case hg => rfl); (case hr => first | (go_simp; done) | (go_simp; rfl)); intro gb346 hg w28 hbox hb; have n0_ := zab.mk (zak (by repeat (first | (with_reducible first | exact HB.out | apply zac | apply zaa | apply zad) | exact HB.out)) hb); have n1_ := zab.mk (hbox); have n2_ := zab.mk ((by rw [hg]; exact (zan (by repeat (first | (with_reducible first | exact HB.out | apply zac | apply zaa | apply zad) | exact HB.out))) : w.heap.size ≤ gb346)); have n3_ := zab.mk ((by rw [hg]; exact (zan (by repeat (first | (with_reducible first | exact HB.out | apply zac | apply zaa | apply zad) | exact HB.out))) : w.heap.size ≤ gb346)); clear HB; have HB := n0_; have BK346 := n1_; have GW346 := n2_; have GE346 := n3_; clear n0_ n1_ n2_ n3_; clear hb hbox hg; have hcz29_0 : w28.cell? ⟨gb346, 0, none⟩ = some (.slice A0_0 l0_0.length c0_0) := (zah BK346.out 0).trans rfl; have hfz29_0 := zae BK346.out 0) | ((with_reducible refine zaE (f := 56) rfl ?_); refine zbe (some 13) rfl rfl Try.func56 (by kernel_rfl) rfl #[.agg #[.slice A0_0 l0_0.length c0_0], .int .i64 a1] rfl (by (try simp only [List.map_toArray, List.map_cons, List.map_nil]); first | done | rfl | (simp only [List.length_drop, List.length_take]; rfl)) ?_; (with_reducible refine (za3.calls _ _ l0_0 a1 false _ ?side1 ?side2 A4.out).mono ?_); (case side1 => repeat (first | exact (Kd.C_below HR0_0.out HB.out) | (with_reducible refine Kd.C_alloc ?_ _) | (with_reducible refine Kd.C_drewN ?_ _) | (with_reducible refine Kd.C_drew ?_))); (case side2 => exact HC0_0.out); rintro e w30 ⟨rfl, hb⟩; refine ⟨_, rfl, ?_⟩; have n0_ := zab.mk (zas (g := gb346) (o := .cells #[.slice A0_0 l0_0.length c0_0] 24 (0, 0)) (by (with_reducible repeat (first | refine zal ?_ _ | refine zam ?_ | refine zaj ?_ _)); exact BK346.out) hb); have n1_ := zab.mk (zak (by repeat (first | (with_reducible first | exact HB.out | apply zac | apply zaa | apply zad | refine zai ?_ GE346.out) | exact HB.out)) hb); clear BK346; clear HB; have BK346 := n0_; have HB := n1_; clear n0_ n1_; (try clear hb); (try clear hb2); (try clear hk); (try clear hi)))
  go_ret2
  exact ⟨by first | rfl | (simp [zar, zaq] <;> rfl) | (simp [*, zar, zaq] <;> rfl), by repeat (first | (with_reducible first | exact HB.out | apply zac | apply zaa | apply zad | refine zai ?_ GE346.out) | exact HB.out)⟩
def zbv.f (k : Nat) (l0_0 : List (S45)) (a1 : Int) (a2 : ByteArray) : Option (Int × Int) := (za6.f k l0_0 (([a1] : List Int))).bind fun t357 => (if t357 = true then ((zbb.f k l0_0 a1 a2).bind fun bt358 => (some (bt358.1, bt358.2))) else (some (0, 100)))
set_option maxHeartbeats 8000000 in
set_option maxRecDepth 100000 in
theorem zbv.calls (k : Nat) (A0_0 : Option Addr) (c0_0 : Nat) (l0_0 : List (S45)) (a1 : Int) (a2 : ByteArray) (r1 : Int) (r2 : Int) (w : World) (hr0_0 : Kd.C k45 w A0_0 l0_0.length l0_0) (hc0_0 : l0_0.length ≤ c0_0) (h : zbv.f k l0_0 a1 a2 = some (r1, r2)) :
  Calls Try.prog 27 #[.agg #[.slice A0_0 l0_0.length c0_0], .int .i64 a1, .string a2] w fun e w' => e = .returned (.tuple #[.int .i64 r1, .int .i64 r2]) ∧ Below w.heap.size w w' := by
 have hu24 := Try.underlying24
 have HR0_0 := zab.mk hr0_0
 have HC0_0 := zab.mk hc0_0
 clear hr0_0 hc0_0
 have HB := zab.mk (Below.refl w.heap.size w)
 have H : ((za6.f k l0_0 (([a1] : List Int))).bind fun t357 => (if t357 = true then ((zbb.f k l0_0 a1 a2).bind fun bt358 => (some (bt358.1, bt358.2))) else (some (0, 100)))) = some (r1, r2) := h
 clear h
 obtain ⟨y354, hy354⟩ : ∃ y_ : List Int, y_ = (([a1] : List Int)) := ⟨_, rfl⟩
 replace H : ((za6.f k l0_0 y354).bind fun t357 => (if t357 = true then ((zbb.f k l0_0 a1 a2).bind fun bt358 => (some (bt358.1, bt358.2))) else (some (0, 100)))) = some (r1, r2) := by first | (rw [hy354]; with_reducible exact H) | (have H2_ := (Option.bind_some _ _).symm.trans H; rw [hy354]; with_reducible exact H2_) | (have H2_ := (Option.bind_some _ _).symm.trans H; with_reducible exact H2_) | with_reducible exact H | (rw [hy354]; exact H) | exact H
 have Ny354 := zab.mk hy354
 clear hy354
 replace H := Option.bind_eq_some_iff.mp H
 obtain ⟨t357, A40, H⟩ := H
 replace H : (if t357 = true then ((zbb.f k l0_0 a1 a2).bind fun bt358 => (some (bt358.1, bt358.2))) else (some (0, 100))) = some (r1, r2) := H
 have A4 := zab.mk A40
 clear A40
 by_cases c5 : t357 = true
 ·subst c5
  have H1 : ((zbb.f k l0_0 a1 a2).bind fun bt358 => (some (bt358.1, bt358.2))) = some (r1, r2) := by rw [if_pos rfl] at H; exact H
  clear H
  have H := H1
  clear H1
  replace H := Option.bind_eq_some_iff.mp H
  obtain ⟨⟨t358, t359⟩, A60, H⟩ := H
  replace H : (some (t358, t359)) = some (r1, r2) := H
  have A6 := zab.mk A60
  clear A60
  simp only [Option.some.injEq, Prod.mk.injEq] at H
  obtain ⟨rfl, rfl⟩ := H
  go_enter Try.func27, Try.ntmps27
  go_wp2_with (first | ((with_reducible refine zay (N := 3) rfl ?_); refine zax ?hg (N := 3) ?hd (cs := #[.slice A0_0 l0_0.length c0_0]) (t := 24) ?hr ?_; (case hd => rfl); (case hg => rfl); (case hr => first | (go_simp; done) | (go_simp; rfl)); intro gb353 hg w7 hbox hb; have n0_ := zab.mk (zak (by repeat (first | (with_reducible first | exact HB.out | apply zac | apply zaa | apply zad) | exact HB.out)) hb); have n1_ := zab.mk (hbox); have n2_ := zab.mk ((by rw [hg]; exact (zan (by repeat (first | (with_reducible first | exact HB.out | apply zac | apply zaa | apply zad) | exact HB.out))) : w.heap.size ≤ gb353)); have n3_ := zab.mk ((by rw [hg]; exact (zan (by repeat (first | (with_reducible first | exact HB.out | apply zac | apply zaa | apply zad) | exact HB.out))) : w.heap.size ≤ gb353)); clear HB; have HB := n0_; have BK353 := n1_; have GW353 := n2_; have GE353 := n3_; clear n0_ n1_ n2_ n3_; clear hb hbox hg; have hcz8_0 : w7.cell? ⟨gb353, 0, none⟩ = some (.slice A0_0 l0_0.length c0_0) := (zah BK353.out 0).trans rfl; have hfz8_0 := zae BK353.out 0) | ((with_reducible refine zay (N := 10) rfl ?_); refine Kd.R_lit (Kd.int .i64) _ 3 ?hg (N := 10) ?hd (xs := ([a1] : List Int)) (inner := [.int .i64 a1]) (ok := fun _ => True) (okp := fun _ => True) ?hr ?hp (fun _ hk => hk) trivial (Below.refl _ _) (Nat.le_refl _) (by simp) ?_; (case hd => rfl); (case hg => rfl); (case hr => first | (go_simp; done) | (go_simp; rfl)); (case hp => exact (Reps.one (show Kd.M (Kd.int .i64) _ _ _ a1 [.int .i64 a1] from rfl) (Reps.none _ _))); intro v355 w9 ho10 hb hg_ hnew_; clear hg_ hnew_; (first | rw [← Ny354.out] at ho10 | (simp only [Int.reduceToNat] at ho10; rw [← Ny354.out] at ho10)); have n0_ := zab.mk (Kd.R_lower ho10 (zan (by repeat (first | (with_reducible first | exact HB.out | apply zac | apply zaa | apply zad | refine zai ?_ GE353.out) | exact HB.out)))); have n1_ := zab.mk (zas (g := gb353) (o := .cells #[.slice A0_0 l0_0.length c0_0] 24 (0, 0)) (by (with_reducible repeat (first | refine zal ?_ _ | refine zam ?_ | refine zaj ?_ _)); exact BK353.out) hb); have n2_ := zab.mk (zak (by repeat (first | (with_reducible first | exact HB.out | apply zac | apply zaa | apply zad | refine zai ?_ GE353.out) | exact HB.out)) hb); clear BK353; clear HB; have HO356 := n0_; have BK353 := n1_; have HB := n2_; clear n0_ n1_ n2_; clear hb ho10; obtain ⟨Ao11, co11, eo11⟩ := Kd.zcp HO356.out; subst eo11) | ((with_reducible refine zaE (f := 40) rfl ?_); refine zbe (some 11) rfl rfl Try.func40 (by kernel_rfl) rfl #[.agg #[.slice A0_0 l0_0.length c0_0], .slice Ao11 y354.length co11] rfl (by (try simp only [List.map_toArray, List.map_cons, List.map_nil]); first | done | rfl | (simp only [List.length_drop, List.length_take]; rfl)) ?_; (with_reducible refine (za6.calls k _ _ l0_0 _ _ y354 true _ ?side1 ?side2 ?side3 ?side4 A4.out).mono ?_); (case side1 => repeat (first | exact (Kd.C_below HR0_0.out HB.out) | (with_reducible refine Kd.C_alloc ?_ _) | (with_reducible refine Kd.C_drewN ?_ _) | (with_reducible refine Kd.C_drew ?_))); (case side2 => exact HC0_0.out); (case side3 => repeat (first | exact (Kd.zbt HO356.out).2.2 | (with_reducible refine Kd.C_alloc ?_ _) | (with_reducible refine Kd.C_drewN ?_ _) | (with_reducible refine Kd.C_drew ?_))); (case side4 => exact (Kd.zbt HO356.out).2.1); rintro e w12 ⟨rfl, hb⟩; refine ⟨_, rfl, ?_⟩; have n0_ := zab.mk (Kd.zcr (by (with_reducible repeat (first | apply Kd.zcb | apply Kd.zcq | apply Kd.R_drew)); exact HO356.out) hb); have n1_ := zab.mk (zas (g := gb353) (o := .cells #[.slice A0_0 l0_0.length c0_0] 24 (0, 0)) (by (with_reducible repeat (first | refine zal ?_ _ | refine zam ?_ | refine zaj ?_ _)); exact BK353.out) hb); have n2_ := zab.mk (zak (by repeat (first | (with_reducible first | exact HB.out | apply zac | apply zaa | apply zad | refine zai ?_ GE353.out) | exact HB.out)) hb); clear HO356; clear BK353; clear HB; have HO356 := n0_; have BK353 := n1_; have HB := n2_; clear n0_ n1_ n2_; (try clear hb); (try clear hb2); (try clear hk); (try clear hi); have hcz13_0 : w12.cell? ⟨gb353, 0, none⟩ = some (.slice A0_0 l0_0.length c0_0) := (zah BK353.out 0).trans rfl; have hfz13_0 := zae BK353.out 0) | ((with_reducible refine zaE (f := 53) rfl ?_); refine zbe (some 16) rfl rfl Try.func53 (by kernel_rfl) rfl #[.agg #[.slice A0_0 l0_0.length c0_0], .int .i64 a1, .string a2] rfl (by (try simp only [List.map_toArray, List.map_cons, List.map_nil]); first | done | rfl | (simp only [List.length_drop, List.length_take]; rfl)) ?_; (with_reducible refine (zbb.calls k _ _ l0_0 a1 a2 t358 t359 _ ?side1 ?side2 A6.out).mono ?_); (case side1 => repeat (first | exact (Kd.C_below HR0_0.out HB.out) | (with_reducible refine Kd.C_alloc ?_ _) | (with_reducible refine Kd.C_drewN ?_ _) | (with_reducible refine Kd.C_drew ?_))); (case side2 => exact HC0_0.out); rintro e w14 ⟨rfl, hb⟩; refine ⟨_, rfl, ?_⟩; have n0_ := zab.mk (Kd.zcr (by (with_reducible repeat (first | apply Kd.zcb | apply Kd.zcq | apply Kd.R_drew)); exact HO356.out) hb); have n1_ := zab.mk (zas (g := gb353) (o := .cells #[.slice A0_0 l0_0.length c0_0] 24 (0, 0)) (by (with_reducible repeat (first | refine zal ?_ _ | refine zam ?_ | refine zaj ?_ _)); exact BK353.out) hb); have n2_ := zab.mk (zak (by repeat (first | (with_reducible first | exact HB.out | apply zac | apply zaa | apply zad | refine zai ?_ GE353.out) | exact HB.out)) hb); clear HO356; clear BK353; clear HB; have HO356 := n0_; have BK353 := n1_; have HB := n2_; clear n0_ n1_ n2_; (try clear hb); (try clear hb2); (try clear hk); (try clear hi)))
  go_ret2
  exact ⟨by first | rfl | (simp [zar, zaq] <;> rfl) | (simp [*, zar, zaq] <;> rfl), by repeat (first | (with_reducible first | exact HB.out | apply zac | apply zaa | apply zad | refine zai ?_ GE353.out) | exact HB.out)⟩
 ·replace c5 := Bool.eq_false_iff.mpr c5
  subst c5
  have H1 : (some (0, 100)) = some (r1, r2) := by rw [if_neg (show ¬ (false = true) by decide)] at H; exact H
  clear H
  have H := H1
  clear H1
  simp only [Option.some.injEq, Prod.mk.injEq] at H
  obtain ⟨rfl, rfl⟩ := H
  go_enter Try.func27, Try.ntmps27
  go_wp2_with (first | ((with_reducible refine zay (N := 3) rfl ?_); refine zax ?hg (N := 3) ?hd (cs := #[.slice A0_0 l0_0.length c0_0]) (t := 24) ?hr ?_; (case hd => rfl); (case hg => rfl); (case hr => first | (go_simp; done) | (go_simp; rfl)); intro gb353 hg w15 hbox hb; have n0_ := zab.mk (zak (by repeat (first | (with_reducible first | exact HB.out | apply zac | apply zaa | apply zad) | exact HB.out)) hb); have n1_ := zab.mk (hbox); have n2_ := zab.mk ((by rw [hg]; exact (zan (by repeat (first | (with_reducible first | exact HB.out | apply zac | apply zaa | apply zad) | exact HB.out))) : w.heap.size ≤ gb353)); have n3_ := zab.mk ((by rw [hg]; exact (zan (by repeat (first | (with_reducible first | exact HB.out | apply zac | apply zaa | apply zad) | exact HB.out))) : w.heap.size ≤ gb353)); clear HB; have HB := n0_; have BK353 := n1_; have GW353 := n2_; have GE353 := n3_; clear n0_ n1_ n2_ n3_; clear hb hbox hg; have hcz16_0 : w15.cell? ⟨gb353, 0, none⟩ = some (.slice A0_0 l0_0.length c0_0) := (zah BK353.out 0).trans rfl; have hfz16_0 := zae BK353.out 0) | ((with_reducible refine zay (N := 10) rfl ?_); refine Kd.R_lit (Kd.int .i64) _ 3 ?hg (N := 10) ?hd (xs := ([a1] : List Int)) (inner := [.int .i64 a1]) (ok := fun _ => True) (okp := fun _ => True) ?hr ?hp (fun _ hk => hk) trivial (Below.refl _ _) (Nat.le_refl _) (by simp) ?_; (case hd => rfl); (case hg => rfl); (case hr => first | (go_simp; done) | (go_simp; rfl)); (case hp => exact (Reps.one (show Kd.M (Kd.int .i64) _ _ _ a1 [.int .i64 a1] from rfl) (Reps.none _ _))); intro v355 w17 ho18 hb hg_ hnew_; clear hg_ hnew_; (first | rw [← Ny354.out] at ho18 | (simp only [Int.reduceToNat] at ho18; rw [← Ny354.out] at ho18)); have n0_ := zab.mk (Kd.R_lower ho18 (zan (by repeat (first | (with_reducible first | exact HB.out | apply zac | apply zaa | apply zad | refine zai ?_ GE353.out) | exact HB.out)))); have n1_ := zab.mk (zas (g := gb353) (o := .cells #[.slice A0_0 l0_0.length c0_0] 24 (0, 0)) (by (with_reducible repeat (first | refine zal ?_ _ | refine zam ?_ | refine zaj ?_ _)); exact BK353.out) hb); have n2_ := zab.mk (zak (by repeat (first | (with_reducible first | exact HB.out | apply zac | apply zaa | apply zad | refine zai ?_ GE353.out) | exact HB.out)) hb); clear BK353; clear HB; have HO356 := n0_; have BK353 := n1_; have HB := n2_; clear n0_ n1_ n2_; clear hb ho18; obtain ⟨Ao19, co19, eo19⟩ := Kd.zcp HO356.out; subst eo19) | ((with_reducible refine zaE (f := 40) rfl ?_); refine zbe (some 11) rfl rfl Try.func40 (by kernel_rfl) rfl #[.agg #[.slice A0_0 l0_0.length c0_0], .slice Ao19 y354.length co19] rfl (by (try simp only [List.map_toArray, List.map_cons, List.map_nil]); first | done | rfl | (simp only [List.length_drop, List.length_take]; rfl)) ?_; (with_reducible refine (za6.calls k _ _ l0_0 _ _ y354 false _ ?side1 ?side2 ?side3 ?side4 A4.out).mono ?_); (case side1 => repeat (first | exact (Kd.C_below HR0_0.out HB.out) | (with_reducible refine Kd.C_alloc ?_ _) | (with_reducible refine Kd.C_drewN ?_ _) | (with_reducible refine Kd.C_drew ?_))); (case side2 => exact HC0_0.out); (case side3 => repeat (first | exact (Kd.zbt HO356.out).2.2 | (with_reducible refine Kd.C_alloc ?_ _) | (with_reducible refine Kd.C_drewN ?_ _) | (with_reducible refine Kd.C_drew ?_))); (case side4 => exact (Kd.zbt HO356.out).2.1); rintro e w20 ⟨rfl, hb⟩; refine ⟨_, rfl, ?_⟩; have n0_ := zab.mk (Kd.zcr (by (with_reducible repeat (first | apply Kd.zcb | apply Kd.zcq | apply Kd.R_drew)); exact HO356.out) hb); have n1_ := zab.mk (zas (g := gb353) (o := .cells #[.slice A0_0 l0_0.length c0_0] 24 (0, 0)) (by (with_reducible repeat (first | refine zal ?_ _ | refine zam ?_ | refine zaj ?_ _)); exact BK353.out) hb); have n2_ := zab.mk (zak (by repeat (first | (with_reducible first | exact HB.out | apply zac | apply zaa | apply zad | refine zai ?_ GE353.out) | exact HB.out)) hb); clear HO356; clear BK353; clear HB; have HO356 := n0_; have BK353 := n1_; have HB := n2_; clear n0_ n1_ n2_; (try clear hb); (try clear hb2); (try clear hk); (try clear hi)))
  go_ret2
  exact ⟨by first | rfl | (simp [zar, zaq] <;> rfl) | (simp [*, zar, zaq] <;> rfl), by repeat (first | (with_reducible first | exact HB.out | apply zac | apply zaa | apply zad | refine zai ?_ GE353.out) | exact HB.out)⟩
end Go.Proofs.Ytjghephnjkffcaa.PCk
