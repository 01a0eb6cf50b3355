/- Parts of one proof, merged by a program of this repo: walks over the given program and plain facts. -/
import Derived.Shelf.Spec.SlicesInsertGrow
import Derived.Test.YtjghephnjkffcaaMTreeWhole2
import Derived.Test.YtjghephnjkffcaaMTreeWhole4
import Derived.Test.YtjghephnjkffcaaMTreeWhole9
import Derived.Deep.DrawnRows
import Derived.Deep.RegionHeld3
import Derived.Test.YtjghephnjkffcaaMTreeWhole5
import Derived.Test.YtjghephnjkffcaaMTreeWhole8
import Derived.Deep.CutBlock
namespace Go.Proofs.Ytjghephnjkffcaa.PCk
open Go.RowKit Go.Proofs.YtjghephnjkffcaaW.PrintWords Go.Proofs.YtjghephnjkffcaaW.PrintLast Go.Proofs.YtjghephnjkffcaaW.PrintMore
attribute [local go_sem] zbV zbT zci zch zbG zbF zbU zbS
set_option linter.unusedVariables false
set_option linter.unusedSimpArgs false
theorem run_copy_sz {P : Program} (w : World) (dT sT ty elem : TypeId) (g o dLen dCap : Nat) (a : Addr) (sLen sCap : Nat) (cur : Array Value) (t : TypeId) (cs : List Value) (sz m : Nat)
  (hu : P.underlying dT = some (.slice elem)) (hs : (P.info? elem).map (·.size) = some sz) (hm : Nat.min sLen dLen = m)
  (hg : w.heap[g]? = some (.cells cur t (0, 0))) (hn : cs.length = m * sz)
  (hsrc : ∀ j v, cs[j]? = some v → w.cell? (a.add j) = some v) (hfit : o + cs.length ≤ cur.size) (h1 : ∀ v ∈ cs, v.oneCell' = true) :
  (Builtin.copy_ #[dT, sT] ty #[.slice (some ⟨g, o, none⟩) dLen dCap, .slice (some a) sLen sCap]).run P w =
   .ok (goInt m) (w.setRow g (cur.toList.take o ++ cs ++ cur.toList.drop (o + cs.length)).toArray) := by
 have hl := run_loadCells_list (P := P) w a cs hsrc
 have hst := run_storeCells_at P g o t cs 0 cur w hg (by simpa using hfit) h1
 cases hq : P.info? elem with
 | none => simp [hq] at hs
 | some i =>
  have hi : i.size = sz := by simpa [hq] using hs
  simp [Builtin.copy_, run_underlying hu, Builtin.lenOf, Builtin.firstCells, sizeOf, typeInfo, hq, hi, hm, ← hn, hl, hst]
theorem apart_run {w : World} {vb g : Nat} {A B : Array Value} {tA tB e tS tR : TypeId} (n la ca lb cb off : Nat) (ht : Try.prog.underlying tS = some (.slice e)) (hz : ∀ w, (Go.sizeOf e).run Try.prog w = .ok n w) (hne : vb ≠ g) (hA : w.heap[vb]? = some (.cells A tA (0, 0))) (hB : w.heap[g]? = some (.cells B tB (0, 0))) (hB0 : B.size ≠ 0) :
  (Extern.SlicesOverlaps.overlaps #[tS, tS] #[tR] #[.slice (some ⟨vb, 0, none⟩) la ca, .slice (some ⟨g, off, none⟩) lb cb]).run Try.prog w = .ok (.bool false) w :=
 Lib.run_overlaps_apart w tS tR e ht n hz ⟨vb, 0, none⟩ ⟨g, off, none⟩ la ca lb cb hne tA tB A.size B.size (by simp [World.shape?, hA]) (by simp [World.shape?, hB]) hB0 (by simp [World.frozen?, hA]) (by simp [World.frozen?, hA])
theorem zaA.size50 : (Try.prog.info? 66).map (·.size) = some 2 := by
 obtain ⟨i0, hi0, _, hsz, _⟩ := info_parts info66
 rw [hi0]; simp [hsz]
theorem zaA.sizeOf50 (w : World) : (Go.sizeOf 66).run Try.prog w = .ok 2 w := by
 obtain ⟨i0, hi0, _, hsz, _⟩ := info_parts info66
 simp [sizeOf, typeInfo, hi0, hsz]
theorem zaA.overlaps_run {w : World} {vb g : Nat} {A B : Array Value} (la ca lb cb off : Nat) (hne : vb ≠ g) (hA : w.heap[vb]? = some (.cells A 66 (0, 0))) (hB : w.heap[g]? = some (.cells B 66 (0, 0))) (hB0 : B.size ≠ 0) :
  (callFunc 80 #[.slice (some ⟨vb, 0, none⟩) la ca, .slice (some ⟨g, off, none⟩) lb cb]).run Try.prog w = .ok (.value (.bool false)) w := by
 rw [run_callFunc_extern Try.func80 (by kernel_rfl) (by kernel_rfl) (by kernel_rfl) (e := Extern.SlicesOverlaps.overlaps #[43, 43] #[4]) (by kernel_rfl),
  apart_run 2 la ca lb cb off Try.underlying43 zaA.sizeOf50 hne hA hB hB0]
 rfl
theorem insert_list {L cs vs : List Value} {i n c : Nat} (hL : L.length = c * 2) (hcs : L.take (n * 2) = cs) (hi : i < n) (hc : n + 1 ≤ c) (hv : vs.length = 2) :
  ((L.take ((i + 1) * 2) ++ cs.drop (i * 2) ++ L.drop ((i + 1) * 2 + (cs.drop (i * 2)).length)).take (i * 2) ++ vs ++ (L.take ((i + 1) * 2) ++ cs.drop (i * 2) ++ L.drop ((i + 1) * 2 + (cs.drop (i * 2)).length)).drop (i * 2 + vs.length)).take ((n + 1) * 2) = cs.take (i * 2) ++ vs ++ cs.drop (i * 2) := by
 have hl : cs.length = n * 2 := by rw [← hcs, List.length_take, hL]; omega
 have h1 : (L.take ((i + 1) * 2)).length = (i + 1) * 2 := by rw [List.length_take, hL]; omega
 have e1 : (L.take ((i + 1) * 2) ++ cs.drop (i * 2) ++ L.drop ((i + 1) * 2 + (cs.drop (i * 2)).length)).take (i * 2) = cs.take (i * 2) := by
  rw [List.append_assoc, List.take_append_of_le_length (by omega), List.take_take, ← hcs, List.take_take]; congr 1; omega
 have e2 : (L.take ((i + 1) * 2) ++ cs.drop (i * 2) ++ L.drop ((i + 1) * 2 + (cs.drop (i * 2)).length)).drop (i * 2 + vs.length) = cs.drop (i * 2) ++ L.drop ((i + 1) * 2 + (cs.drop (i * 2)).length) := by
  rw [List.append_assoc, List.drop_append, List.drop_eq_nil_of_le (by omega), List.nil_append, show i * 2 + vs.length - (L.take ((i + 1) * 2)).length = 0 by omega, List.drop_zero]
 rw [e1, e2, ← List.append_assoc, List.take_append_of_le_length (by simp; omega), List.take_of_length_le (by simp; omega)]
set_option maxHeartbeats 4000000 in
set_option maxRecDepth 100000 in
theorem zaA.shift (w : World) (g n c i vb : Nat) (cs vs : List Value) (cur : Array Value) (hi : i < n) (hroom : n + 1 ≤ c) (hc63 : c ≤ 9223372036854775807) (hvb : vb ≠ g)
  (hg : w.heap[g]? = some (.cells cur 66 (0, 0))) (hcur : cur.size = c * 2) (hcs : cur.toList.take (n * 2) = cs) (h1 : ∀ v ∈ cs, v.oneCell' = true) (hvl : vs.length = 2) (h1v : ∀ v ∈ vs, v.oneCell' = true) (hv : w.heap[vb]? = some (.cells vs.toArray 66 (0, 0))) :
  Calls Try.prog 67 #[.slice (some ⟨g, 0, none⟩) n c, .int .i64 i, .slice (some ⟨vb, 0, none⟩) 1 1] w fun e w' => e = .returned (.slice (some ⟨g, 0, none⟩) (n + 1) c) ∧
   (∃ cur', w'.heap[g]? = some (.cells cur' 66 (0, 0)) ∧ cur'.size = c * 2 ∧ cur'.toList.take ((n + 1) * 2) = cs.take (i * 2) ++ vs ++ cs.drop (i * 2)) ∧ w.grownBy w' (some g) := by
 have hsl := Try.underlying43
 have hz2 : ((i : Int) == (n : Int)) = false := by simp; omega
 have hz2b : (i == n) = false := by simp; omega
 have hz3 : decide ((c : Int) < (n : Int) + 1) = false := decide_eq_false (by omega)
 have hz3b : decide (c < n + 1) = false := decide_eq_false (by omega)
 have hb2 : ¬ (c = i + 1) := by omega
 have hb4 : ¬ (c = i) := by omega
 have hin : i ≤ n := by omega
 have hin1 : i + 1 ≤ n + 1 := by omega
 have hw1 : IntKind.i64.wrap ((i : Int) + 1) = (i : Int) + 1 := by rw [IntKind.wrap_i64]; omega
 have hb1 : (0 : Int) ≤ (i : Int) + 1 := by omega
 have htn : ((i : Int) + 1).toNat = i + 1 := by omega
 have hb3 : (i : Int) + 1 ≤ (n : Int) + 1 := by omega
 have hb3b : (i : Int) ≤ (n : Int) := by omega
 have hb5 : (i : Int) ≤ (n : Int) + 1 := by omega
 have mixed : Try.prog.follows .mixedOrders = true := by kernel_rfl
 have hov := fun la ca lb cb off => zaA.overlaps_run la ca lb cb off hvb hv hg (by omega)
 have hinl : cs.length = n * 2 := by rw [← hcs, List.length_take, Array.length_toList, hcur]; omega
 have hdl : (cs.drop (i * 2)).length = (n - i) * 2 := by rw [List.length_drop, hinl]; omega
 have hcell : ∀ (W : World) (j : Nat) (v : Value), W.heap[g]? = some (.cells cur 66 (0, 0)) → (cs.drop (i * 2))[j]? = some v → W.cell? ((⟨g, i * 2, none⟩ : Addr).add j) = some v := fun W j v hW hj => by
  rw [Addr.add_lit, List.getElem?_drop, ← hcs, List.getElem?_take] at *
  split at hj
  ·simp [World.cell?, hW, ← hj]
  ·cases hj
 obtain ⟨r1, hr1⟩ : ∃ r1, r1 = cur.toList.take ((i + 1) * 2) ++ cs.drop (i * 2) ++ cur.toList.drop ((i + 1) * 2 + (cs.drop (i * 2)).length) := ⟨_, rfl⟩
 obtain ⟨W1, hW1⟩ : ∃ W1, W1 = w.drew.setRow g r1.toArray := ⟨_, rfl⟩
 have hcp1 : ∀ ty dc sc, (Builtin.copy_ #[43, 43] ty #[.slice (some ⟨g, (i + 1) * 2, none⟩) (n - i) dc, .slice (some ⟨g, i * 2, none⟩) (n + 1 - i) sc]).run Try.prog w.drew = .ok (goInt ((n - i : Nat))) W1 := fun ty dc sc => by
  rw [hW1, hr1]
  exact run_copy_sz w.drew _ _ ty 66 g ((i + 1) * 2) (n - i) dc ⟨g, i * 2, none⟩ (n + 1 - i) sc cur 66 (cs.drop (i * 2)) 2 (n - i) Try.underlying43 zaA.size50 (by simp only [Nat.min_def]; split <;> omega) hg hdl (fun j v hj => hcell w.drew j v hg hj) (by rw [hdl, hcur]; omega) (fun v hv => h1 v (List.mem_of_mem_drop hv))
 have hg1 : W1.heap[g]? = some (.cells r1.toArray 66 (0, 0)) := by rw [hW1]; exact setRow_heap w.drew g cur _ _ _ hg
 have hr1l : r1.length = c * 2 := by
  rw [hr1]; simp only [List.length_append, List.length_take, List.length_drop, Array.length_toList, hcur]; simp only [List.length_drop] at hdl; omega
 obtain ⟨W2, hW2⟩ : ∃ W2, W2 = W1.setRow g (r1.take (i * 2) ++ vs ++ r1.drop (i * 2 + vs.length)).toArray := ⟨_, rfl⟩
 have hv1 : W1.heap[vb]? = some (.cells vs.toArray 66 (0, 0)) := by rw [hW1, setRow_other _ _ _ _ hvb]; exact hv
 have hcp2 : ∀ ty dl dc, 1 ≤ dl → (Builtin.copy_ #[43, 43] ty #[.slice (some ⟨g, i * 2, none⟩) dl dc, .slice (some ⟨vb, 0, none⟩) 1 1]).run Try.prog W1 = .ok (goInt 1) W2 := fun ty dl dc hm => by
  rw [hW2]
  exact run_copy_sz W1 _ _ ty 66 g (i * 2) dl dc ⟨vb, 0, none⟩ 1 1 r1.toArray 66 vs 2 1 Try.underlying43 zaA.size50 (by simp only [Nat.min_def]; split <;> omega) hg1 (by omega) (fun j v hj => by rw [Addr.add_lit]; simp [World.cell?, hv1, hj]) (by rw [hvl]; simp only [List.size_toArray, hr1l]; omega) h1v
 have hw1 : IntKind.i64.wrap ((i : Int) + 1) = (i : Int) + 1 := by rw [IntKind.wrap_i64]; omega
 have hb1 : (0 : Int) ≤ (i : Int) + 1 := by omega
 have htn : ((i : Int) + 1).toNat = i + 1 := by omega
 have hb3 : (i : Int) + 1 ≤ (n : Int) + 1 := by omega
 have hb3b : (i : Int) ≤ (n : Int) := by omega
 have hb5 : (i : Int) ≤ (n : Int) + 1 := by omega
 have mixed : Try.prog.follows .mixedOrders = true := by kernel_rfl
 have hov := fun la ca lb cb off => zaA.overlaps_run la ca lb cb off hvb hv hg (by omega)
 have HW1 := zaa.mk hW1
 have HR1 := zaa.mk hr1
 have HW2 := zaa.mk hW2
 have HCS := zaa.mk hcs
 have HG := zaa.mk hg
 have HG1 := zaa.mk hg1
 have HRL := zaa.mk hr1l
 have HDL := zaa.mk hdl
 have HIL := zaa.mk hinl
 have HCU := zaa.mk hcur
 have hcp3 : ∀ ty dc, (Builtin.copy_ #[43, 43] ty #[.slice (some ⟨g, i * 2, none⟩) (n + 1 - i) dc, .slice (some ⟨vb, 0, none⟩) 1 1]).run Try.prog W1 = .ok (goInt 1) W2 := fun ty dc => hcp2 ty _ dc (by omega)
 clear hW1 hr1 hW2 hcs hg hg1 hr1l hdl hinl hcur hcell hcp2 h1 h1v hv hv1
 go_enter Try.func67, Try.ntmps67
 go_wp2_with (simp only [hov])
 go_region_law_o (refine step_copy_runI rfl _ _ 43 43 rfl _ _ (by simp [Act.eval, Act.put]) (by simp [Act.eval, Act.put]) (hcp1 _ _ _) ?_)
 go_wp2_with (refine wpList_copy_runI _ rfl _ _ 43 43 rfl _ _ rfl rfl (hcp3 _ _) ?_)
 go_ret
 have HL : cur.toList.length = c * 2 := by rw [Array.length_toList]; exact HCU.out
 have HLi := insert_list HL HCS.out hi hroom hvl
 rw [← HR1.out] at HLi
 refine ⟨rfl, ⟨_, by rw [HW2.out]; exact setRow_heap W1 g _ _ _ _ HG1.out, ?_, HLi⟩, ?_⟩
 ·have := HRL.out
  simp only [List.size_toArray, List.length_append, List.length_take, List.length_drop, this, hvl]; omega
 ·rw [HW2.out, HW1.out]
  exact ⟨rfl, rfl, rfl, by simp [World.setRow], fun k _ hk => by
   have hne : k ≠ g := fun e => hk (by rw [e])
   rw [setRow_other _ _ _ _ hne, setRow_other _ _ _ _ hne]; rfl⟩
theorem insert_list2 {L cs vs : List Value} {i n G : Nat} (hL : L.length = G * 2) (hcl : cs.length = n * 2) (hcs : L.take (i * 2) = cs.take (i * 2)) (hi : i < n) (hc : n + 1 ≤ G) (hv : vs.length = 2) (r1 : List Value) (hr1 : r1 = L.take (i * 2) ++ vs ++ L.drop (i * 2 + vs.length)) :
  (r1.take ((i + 1) * 2) ++ cs.drop (i * 2) ++ r1.drop ((i + 1) * 2 + (cs.drop (i * 2)).length)).take ((n + 1) * 2) = cs.take (i * 2) ++ vs ++ cs.drop (i * 2) := by
 have h1 : (L.take (i * 2) ++ vs).length = (i + 1) * 2 := by rw [List.length_append, List.length_take, hL, hv]; omega
 have e1 : r1.take ((i + 1) * 2) = cs.take (i * 2) ++ vs := by
  rw [hr1, List.take_append_of_le_length (by omega), List.take_of_length_le (by omega), hcs]
 have h2 : (cs.take (i * 2) ++ vs).length = (i + 1) * 2 := by rw [← hcs]; exact h1
 rw [e1, List.take_append_of_le_length (by rw [List.length_append, h2, List.length_drop, hcl]; omega), List.take_of_length_le (by rw [List.length_append, h2, List.length_drop, hcl]; omega)]
set_option maxHeartbeats 4000000 in
set_option maxRecDepth 100000 in
theorem zaA.grow (w : World) (g n c i vb : Nat) (cs vs : List Value) (cur : Array Value) (hi : i < n) (hnc : n ≤ c) (hroom : c < n + 1) (hbig : (n + 1) * 24 ≤ 140737488355328)
  (hg : w.heap[g]? = some (.cells cur 66 (0, 0))) (hcur : cur.size = c * 2) (hcs : cur.toList.take (n * 2) = cs) (h1 : ∀ v ∈ cs, v.oneCell' = true) (hvl : vs.length = 2) (h1v : ∀ v ∈ vs, v.oneCell' = true) (hv : w.heap[vb]? = some (.cells vs.toArray 66 (0, 0))) :
  Calls Try.prog 67 #[.slice (some ⟨g, 0, none⟩) n c, .int .i64 i, .slice (some ⟨vb, 0, none⟩) 1 1] w fun e w' => ∃ G, e = .returned (.slice (some ⟨w.heap.size, 0, none⟩) (n + 1) G) ∧ n + 1 ≤ G ∧ G ≤ maxLen ∧
   (∃ cur', w'.heap[w.heap.size]? = some (.cells cur' 66 (0, 0)) ∧ cur'.size = G * 2 ∧ cur'.toList.take ((n + 1) * 2) = cs.take (i * 2) ++ vs ++ cs.drop (i * 2)) ∧ w.grownBy w' none := by
 have hsl := Try.underlying43
 have hin0 := Try.underlying3
 have hz2 : ((i : Int) == (n : Int)) = false := by simp; omega
 have hz2b : (i == n) = false := by simp; omega
 have hz3 : decide ((c : Int) < (n : Int) + 1) = true := decide_eq_true (by omega)
 have hz3b : decide (c < n + 1) = true := decide_eq_true (by omega)
 have hb4 : ¬ (c = i) := by omega
 have hin : i ≤ n := by omega
 have hin1 : i + 1 ≤ n + 1 := by omega
 have hgw : g < w.heap.size := zaV hg
 have hvw : vb < w.heap.size := zaV hv
 have hinl : cs.length = n * 2 := by rw [← hcs, List.length_take, Array.length_toList, hcur]; omega
 have hdl : (cs.drop (i * 2)).length = (n - i) * 2 := by rw [List.length_drop, hinl]; omega
 have hcell : ∀ (W : World) (o j : Nat) (v : Value), W.heap[g]? = some (.cells cur 66 (0, 0)) → cs[o + j]? = some v → W.cell? ((⟨g, o, none⟩ : Addr).add j) = some v := fun W o j v hW hj => by
  rw [Addr.add_lit, ← hcs, List.getElem?_take] at *
  split at hj
  ·simp [World.cell?, hW, ← hj]
  ·cases hj
 obtain ⟨i0, hi0, hz0, hzs, hzb⟩ := info_parts info66
 have hold : (Builtin.firstCells i0.size i (.slice (some ⟨g, 0, none⟩) i c)).run Try.prog w.drew = .ok (cs.take (i * 2)).toArray w.drew := by
  rw [hzs]
  exact run_firstCells_some w.drew 2 i ⟨g, 0, none⟩ i c (cs.take (i * 2)) (by rw [List.length_take]; omega) (fun j v hj => by
   rw [List.getElem?_take] at hj
   split at hj
   ·exact hcell w.drew 0 j v hg (by rw [Nat.zero_add]; exact hj)
   ·cases hj)
 have hik : i + (n + 1 - i) = n + 1 := by omega
 obtain ⟨G, hG⟩ : ∃ G, G = grownCap w (n + 1) c 66 := ⟨_, rfl⟩
 obtain ⟨row, hrow⟩ : ∃ row : List Value, row = ((cs.take (i * 2)).toArray ++ Builtin.zeroCells (Value.agg #[.string ⟨#[]⟩, .int .i64 0]).cells (n + 1 - i) ++ Builtin.zeroCells (Value.agg #[.string ⟨#[]⟩, .int .i64 0]).cells (G - (n + 1))).toList := ⟨_, rfl⟩
 obtain ⟨W0, hW0⟩ : ∃ W0, W0 = w.drew.alloc (.cells row.toArray 66) := ⟨_, rfl⟩
 have hrz : ∀ ty, (Builtin.append_ #[43, 3] ty #[.slice (some ⟨g, 0, none⟩) i c, .int .i64 ((n : Int) + 1 - (i : Int))]).run Try.prog w = .ok (.slice (some ⟨w.heap.size, 0, none⟩) (n + 1) G) W0 := fun ty => by
  have h := Lib.run_append_grow_zeros w 43 3 ty 66 i0 _ .i64 .i64 Try.underlying43 Try.underlying3 hi0 hz0 (some ⟨g, 0, none⟩) i c (cs.take (i * 2)) hold (n + 1 - i) (by omega) (by omega) (by omega) (by omega) (by rw [hzb]; omega) (by rw [hzb, hik]; exact growslice_fits hroom hbig)
  rw [hik, ← hG] at h
  rw [show (n : Int) + 1 - (i : Int) = ((n + 1 - i : Nat) : Int) by omega, h, hW0, hrow, Array.toArray_toList]
 have hGn : n + 1 ≤ G := by rw [hG]; exact grownCap_ge w _ _ _
 have hGm : G ≤ maxLen := by rw [hG]; exact grownCap_le_maxLen w (n + 1) c 66 (by unfold maxLen; omega)
 have hG63 : G ≤ 9223372036854775807 := by have := hGm; unfold maxLen at this; omega
 have hrl : row.length = G * 2 := by
  rw [hrow]; simp only [Array.toList_append, List.length_append, List.length_take, Array.length_toList, size_zeroCells, hinl]
  simp [Value.cells]; omega
 have hrt : row.take (i * 2) = cs.take (i * 2) := by
  rw [hrow, Array.toList_append, Array.toList_append, List.append_assoc]
  show (cs.take (i * 2) ++ _).take _ = _
  rw [List.take_append_of_le_length (by rw [List.length_take]; omega), List.take_take, Nat.min_self]
 have hg0 : W0.heap[w.heap.size]? = some (.cells row.toArray 66 (0, 0)) := by rw [hW0]; exact heap_alloc_new w.drew _
 have hlow : ∀ k, k < w.heap.size → W0.heap[k]? = w.heap[k]? := fun k hk => by rw [hW0, Below.heap_alloc w.drew _ k hk]; rfl
 obtain ⟨r1, hr1⟩ : ∃ r1, r1 = row.take (i * 2) ++ vs ++ row.drop (i * 2 + vs.length) := ⟨_, rfl⟩
 obtain ⟨W1, hW1⟩ : ∃ W1, W1 = W0.setRow w.heap.size r1.toArray := ⟨_, rfl⟩
 have hcpA : ∀ ty dc, (Builtin.copy_ #[43, 43] ty #[.slice (some ⟨w.heap.size, i * 2, none⟩) (n + 1 - i) dc, .slice (some ⟨vb, 0, none⟩) 1 1]).run Try.prog W0 = .ok (goInt 1) W1 := fun ty dc => by
  rw [hW1, hr1]
  exact run_copy_sz W0 _ _ ty 66 w.heap.size (i * 2) (n + 1 - i) dc ⟨vb, 0, none⟩ 1 1 row.toArray 66 vs 2 1 Try.underlying43 zaA.size50 (by simp only [Nat.min_def]; split <;> omega) hg0 (by omega) (fun j v hj => by rw [Addr.add_lit]; simp [World.cell?, hlow vb hvw, hv, hj]) (by rw [hvl]; simp only [List.size_toArray, hrl]; omega) h1v
 have hg1 : W1.heap[w.heap.size]? = some (.cells r1.toArray 66 (0, 0)) := by rw [hW1]; exact setRow_heap W0 _ _ _ _ _ hg0
 have hr1l : r1.length = G * 2 := by
  rw [hr1]; simp only [List.length_append, List.length_take, List.length_drop, hrl, hvl]; omega
 have hgg : W1.drew.heap[g]? = some (.cells cur 66 (0, 0)) := by
  show W1.heap[g]? = _
  rw [hW1, setRow_other _ _ _ _ (by omega), hlow g hgw]; exact hg
 obtain ⟨W2, hW2⟩ : ∃ W2, W2 = W1.drew.setRow w.heap.size (r1.take ((i + 1) * 2) ++ cs.drop (i * 2) ++ r1.drop ((i + 1) * 2 + (cs.drop (i * 2)).length)).toArray := ⟨_, rfl⟩
 have hcpB : ∀ ty dc sc, (Builtin.copy_ #[43, 43] ty #[.slice (some ⟨w.heap.size, (i + 1) * 2, none⟩) (n - i) dc, .slice (some ⟨g, i * 2, none⟩) (n - i) sc]).run Try.prog W1.drew = .ok (goInt ((n - i : Nat))) W2 := fun ty dc sc => by
  rw [hW2]
  exact run_copy_sz W1.drew _ _ ty 66 w.heap.size ((i + 1) * 2) (n - i) dc ⟨g, i * 2, none⟩ (n - i) sc r1.toArray 66 (cs.drop (i * 2)) 2 (n - i) Try.underlying43 zaA.size50 (by simp only [Nat.min_def]; split <;> omega) hg1 hdl (fun j v hj => hcell _ (i * 2) j v hgg (by rwa [List.getElem?_drop] at hj)) (by rw [hdl]; simp only [List.size_toArray, hr1l]; omega) (fun v hv => h1 v (List.mem_of_mem_drop hv))
 have hw1 : IntKind.i64.wrap ((i : Int) + 1) = (i : Int) + 1 := by rw [IntKind.wrap_i64]; omega
 have hb1 : (0 : Int) ≤ (i : Int) + 1 := by omega
 have htn : ((i : Int) + 1).toNat = i + 1 := by omega
 have hb3 : (i : Int) + 1 ≤ (n : Int) + 1 := by omega
 have hb3b : (i : Int) ≤ (n : Int) := by omega
 have hb5 : (i : Int) ≤ (n : Int) + 1 := by omega
 have hGi : ¬ (G = i) := by omega
 have hGi1 : ¬ (G = i + 1) := by omega
 have mixed : Try.prog.follows .mixedOrders = true := by kernel_rfl
 have HW0 := zaa.mk hW0
 have HW1 := zaa.mk hW1
 have HR1 := zaa.mk hr1
 have HW2 := zaa.mk hW2
 have HG := zaa.mk hg
 have HG1 := zaa.mk hg1
 have HRL := zaa.mk hr1l
 have HRT := zaa.mk hrt
 have HROW := zaa.mk hrl
 have HDL := zaa.mk hdl
 have HIL := zaa.mk hinl
 have HGN := zaa.mk hGn
 have HGM := zaa.mk hGm
 have HLO := zaa.mk hlow
 clear hW0 hW1 hr1 hW2 hcs hg hg1 hr1l hdl hinl hcur hcell h1 h1v hv hold hik hG hrow hGn hGm hrl hrt hg0 hlow hgg hi0 hz0 hzs hzb hgw hvw
 go_enter Try.func67, Try.ntmps67
 go_wp2_with (first | (at_builtin; refine Lib.wpList_append_run _ rfl _ _ _ _ rfl _ _ rfl rfl _ _ (hrz _) ?_) | (refine wpList_copy_runI _ rfl _ _ 43 43 rfl _ _ rfl rfl (hcpA _ _) ?_))
 go_region_law_o (refine step_copy_runI rfl _ _ 43 43 rfl (.slice (some ⟨w.heap.size, (i + 1) * 2, none⟩) (n - i) (G - (i + 1))) (.slice (some ⟨g, i * 2, none⟩) (n - i) (c - i)) (by simp [Act.eval, Act.put]) (by simp [Act.eval, Act.put]) (hcpB _ _ _) ?_)
 go_wp2
 go_ret
 have HLi := insert_list2 HROW.out HIL.out HRT.out hi HGN.out hvl r1 HR1.out
 refine ⟨G, rfl, HGN.out, HGM.out, ⟨_, by rw [HW2.out]; exact setRow_heap W1.drew _ _ _ _ _ HG1.out, ?_, HLi⟩, ?_⟩
 ·have h1 := HRL.out; have h2 := HDL.out; have h3 := HGN.out
  simp only [List.size_toArray, List.length_append, List.length_take, h2, h1]; rw [List.length_drop, h1]; omega
 ·rw [HW2.out, HW1.out]
  refine ⟨by rw [HW0.out]; rfl, by rw [HW0.out]; rfl, by rw [HW0.out]; rfl, ?_, fun k hlt _ => ?_⟩
  ·rw [HW0.out]; simp [World.setRow]
  ·have hne : k ≠ w.heap.size := by omega
   rw [setRow_other _ _ _ _ hne]
   show (W0.setRow _ _).heap[k]? = _
   rw [setRow_other _ _ _ _ hne]
   exact HLO.out k hlt
set_option maxHeartbeats 4000000 in
set_option maxRecDepth 100000 in
theorem zaA.ended (W : World) (base : Nat) (ok : Nat → Prop) (v : Value) (ns : List S66) (x : S66) (HO : k66.R 66 W base ok v ns) (hfresh : ∀ k, W.heap.size ≤ k → ok k) (hbase : base ≤ W.heap.size) (hl : (ns.length + 1) * 24 ≤ 140737488355328) :
  Calls Try.prog 67 #[v, .int .i64 ns.length, .slice (some ⟨W.heap.size, 0, none⟩) 1 1] (W.alloc (.cells #[.string x.f0, .int .i64 x.f1] 66)) fun e w' => ∃ v1, e = .returned v1 ∧ k66.R 66 w' base ok v1 (ns ++ [x]) ∧ W.grownBy w' v.ownBlock ∧ (v1.ownBlock = v.ownBlock ∨ ∃ b, v1.ownBlock = some b ∧ W.heap.size ≤ b) := by
 have hsl := Try.underlying43
 have HH := zaa.mk HO
 obtain ⟨A, c, rfl⟩ := Kd.zco HO
 obtain ⟨_, hnc, _⟩ := Kd.zbL HO
 have hin : ns.length ≤ 9223372036854775807 := by omega
 have HF := zaa.mk hfresh
 clear HO hfresh
 go_enter Try.func67, Try.ntmps67
 go_wp2_with (first | (at_builtin; refine Kd.R_append k66 (w0 := W) base rfl (.tmp 23) (.tmp 24) 43 66 (.agg #[.string ⟨#[]⟩, .int .i64 0]) 24 rfl Try.underlying43 info66 rfl (by decide) (by omega) (.slice A ns.length c) ns x [.string x.f0, .int .i64 x.f1] ok (fun _ => False) rfl rfl (k66_mkM _ _ _ x) (fun _ hk => hk.elim) HF.out HH.out (Below.refl _ _) hbase hl ?_; intro v1 w2 hr2 hb2 hg2 hat; have HR2 := zaa.mk hr2; have HG2 := zaa.mk hg2; have HAT := zaa.mk hat; clear hr2 hb2 hg2 hat))
 all_goals go_ret
 all_goals first | exact ⟨_, rfl, HR2.out, HG2.out, HAT.out⟩ | (cases A <;> exact ⟨_, rfl, HR2.out, HG2.out, HAT.out⟩)
theorem zaA.calls (W : World) (base : Nat) (ok : Nat → Prop) (v : Value) (ns : List S66) (x : S66) (i : Nat) (hi : i ≤ ns.length) (HO : k66.R 66 W base ok v ns) (hfresh : ∀ k, W.heap.size ≤ k → ok k) (hbase : base ≤ W.heap.size) (hl : (ns.length + 1) * 24 ≤ 140737488355328) :
  Calls Try.prog 67 #[v, .int .i64 i, .slice (some ⟨W.heap.size, 0, none⟩) 1 1] (W.alloc (.cells #[.string x.f0, .int .i64 x.f1] 66)) fun e w' => ∃ v1, e = .returned v1 ∧ k66.R 66 w' base ok v1 (ns.take i ++ x :: ns.drop i) ∧ W.grownBy w' v.ownBlock ∧ (v1.ownBlock = v.ownBlock ∨ ∃ b, v1.ownBlock = some b ∧ W.heap.size ≤ b) := by
 rcases Nat.lt_or_ge i ns.length with hlt | hge
 ·obtain ⟨h0, inner, ⟨hil, hown⟩, hrep⟩ := HO
  have hil2 : inner.length = ns.length * 2 := hil
  rcases hown with ⟨_, hn⟩ | ⟨g, cap, cur, rfl, hb, hg, hnc, hcm, hcs, ht⟩
  ·omega
  have hgW := zaV hg
  have hown' : (Value.slice (some ⟨g, 0, none⟩) ns.length cap).ownBlock = some g := rfl
  have ha : (W.alloc (.cells #[.string x.f0, .int .i64 x.f1] 66)).heap[g]? = some (.cells cur 66 (0, 0)) := by rw [Below.heap_alloc _ _ _ hgW]; exact hg
  have hv := heap_alloc_new W (.cells #[.string x.f0, .int .i64 x.f1] 66)
  have h1 : ∀ u ∈ inner, u.oneCell' = true := Kd.reps_one hrep (by decide) (fun p c hp => by rw [k66_openM hp]; intro u hu; simp only [List.mem_cons, List.not_mem_nil, or_false] at hu; rcases hu with rfl | rfl <;> rfl)
  have h1v : ∀ u ∈ [Value.string x.f0, .int .i64 x.f1], u.oneCell' = true := by intro u hu; simp only [List.mem_cons, List.not_mem_nil, or_false] at hu; rcases hu with rfl | rfl <;> rfl
  have hre : ∀ (w' : World) (ok' : Nat → Prop), Reps (k66.M w' base ok') 2 (ns.take i ++ x :: ns.drop i) (inner.take (i * 2) ++ [Value.string x.f0, .int .i64 x.f1] ++ inner.drop (i * 2)) := fun w' ok' => by
   have hrep' : Reps (k66.M w' base ok') 2 ns inner := hrep.imp_ (fun p c hp => by rw [k66_openM hp]; exact k66_mkM _ _ _ p)
   have h2 := (Kd.reps_take (m := i) hrep' (by omega)).snoc (k66_mkM w' base ok' x) rfl
   have h3 := Kd.reps_append h2 (Kd.reps_drop (m := i) hrep')
   rwa [List.append_assoc, List.singleton_append] at h3
  have hlen : (ns.take i ++ x :: ns.drop i).length = ns.length + 1 := by simp; omega
  have hlen2 : (inner.take (i * 2) ++ [Value.string x.f0, .int .i64 x.f1] ++ inner.drop (i * 2)).length = (ns.length + 1) * 2 := by simp; omega
  rcases Nat.lt_or_ge ns.length cap with hroom | hfull
  ·refine (zaA.shift (W.alloc (.cells #[.string x.f0, .int .i64 x.f1] 66)) g ns.length cap i W.heap.size inner [.string x.f0, .int .i64 x.f1] cur hlt hroom (by unfold maxLen at hcm; omega) (by omega) ha hcs ht h1 rfl h1v hv).mono ?_
   rintro e w' ⟨rfl, ⟨cur', hc1, hc2, hc3⟩, hgr⟩
   have hgr2 := (World.grownBy_alloc W (.cells #[.string x.f0, .int .i64 x.f1] 66) (some g)).trans hgr
   refine ⟨_, rfl, ⟨fun k hk => ?_, _, ⟨by rw [hlen2, hlen]; rfl, .inr ⟨g, cap, cur', by rw [hlen], hb, hc1, by rw [hlen]; omega, hcm, hc2, by rw [hlen]; exact hc3⟩⟩, hre _ _⟩, hgr2, .inl rfl⟩
   exact h0 k hk
  ·refine (zaA.grow (W.alloc (.cells #[.string x.f0, .int .i64 x.f1] 66)) g ns.length cap i W.heap.size inner [.string x.f0, .int .i64 x.f1] cur hlt hnc (by omega) hl ha hcs ht h1 rfl h1v hv).mono ?_
   have hsz : (W.alloc (.cells #[.string x.f0, .int .i64 x.f1] 66)).heap.size = W.heap.size + 1 := World.size_alloc _ _
   rw [hsz]
   rintro e w' ⟨G, rfl, hG1, hG2, ⟨cur', hc1, hc2, hc3⟩, hgr⟩
   have hgr2 := (World.grownBy_alloc W (.cells #[.string x.f0, .int .i64 x.f1] 66) (some g)).trans (hgr.but (some g))
   refine ⟨_, rfl, ⟨fun k hk => hfresh k ?_, _, ⟨by rw [hlen2, hlen]; rfl, .inr ⟨W.heap.size + 1, G, cur', by rw [hlen], by omega, hc1, by rw [hlen]; omega, hG2, hc2, by rw [hlen]; exact hc3⟩⟩, hre _ _⟩, hgr2, .inr ⟨W.heap.size + 1, rfl, by omega⟩⟩
   have : k = W.heap.size + 1 := (Option.some.inj hk).symm
   omega
 ·obtain rfl : i = ns.length := by omega
  rw [List.take_of_length_le (Nat.le_refl _), List.drop_eq_nil_of_le (Nat.le_refl _)]
  exact zaA.ended W base ok v ns x HO hfresh hbase hl
theorem slice_any {α : Type} {d : Kd α} {e : Nat} {w : World} {base : Nat} {ok : Nat → Prop} {v : Value} {xs : List α} (h : d.R e w base ok v xs) : ∃ A m c, v = .slice A m c := by
 obtain ⟨A, c, e⟩ := Kd.zco h
 exact ⟨A, _, c, e⟩
theorem named_anew {w2 : World} {base g c : Nat} {ok : Nat → Prop} {l : List S45} (hS : Kd.S k45 45 w2 base ok (.slice (some ⟨g, 0, none⟩) l.length c) l) (x : Int) (h0 : 0 ≤ x) (h1 : x < (l.length : Int)) :
  ∃ (oki : Nat → Prop) (v2 : Value), w2.cell? ⟨g, x.toNat * 6 + 2, none⟩ = some v2 ∧ k66.R 66 w2 base oki v2 (zae l x).f2 ∧ (∀ k, oki k → ok k ∧ k ≠ g) ∧ ok g ∧ g < w2.heap.size ∧ base ≤ g ∧
   ∀ (w3 : World) (v2' : Value) (ns' : List S66), w2.grownBy w3 v2.ownBlock → k66.R 66 w3 base (fun k => oki k ∨ (ok k ∧ w2.heap.size ≤ k)) v2' ns' →
    (∀ j, w3.frozen? ⟨g, j, none⟩ = false) ∧ (∃ u, w3.cell? ⟨g, x.toNat * 6 + 2, none⟩ = some u) ∧ (∃ u, (w3.setCell ⟨g, x.toNat * 6 + 2, none⟩ v2').cell? ⟨g, x.toNat * 6 + 5, none⟩ = some u) ∧ (∀ j, (w3.setCell ⟨g, x.toNat * 6 + 2, none⟩ v2').frozen? ⟨g, j, none⟩ = false) ∧
    ∀ now : Int, Kd.S k45 45 ((w3.setCell ⟨g, x.toNat * 6 + 2, none⟩ v2').setCell ⟨g, x.toNat * 6 + 5, none⟩ (.int .i64 now)) base ok (.slice (some ⟨g, 0, none⟩) l.length c) (l.set x.toNat { zae l x with f2 := ns', f5 := now }) := by
 obtain ⟨oki, cs, hcl, hM, hcc, hoki, hH⟩ := Kd.S_lend hS (⟨0, [], [], ⟨#[]⟩, 0, 0⟩ : S45) x h0 h1
 obtain ⟨g', cap', e', hbg, hgl, cells, hgb⟩ := Kd.S_form hS (by omega)
 injection e' with e1 _ _
 injection e1 with e1
 injection e1 with e1
 subst e1
 obtain ⟨v1, v2, rfl, hR1, hR2⟩ := k45_openM hM
 have hc2 := hcc 2 v2 rfl
 refine ⟨oki, v2, hc2, hR2, hoki, (Kd.S_R hS).1 g rfl, hgl, hbg, fun w3 v2' ns' hg hR3 => ?_⟩
 have hne : some g ≠ v2.ownBlock := fun e => (hoki g (hR2.1 g e.symm)).2 rfl
 have hgb3 := zbr hgb hg hne
 have hH3 := Kd.H_grown (Kd.H_widen hH) hg (fun k hk => .inl (hR2.1 k hk))
 have hR13 : (Kd.int .u8).R 5 w3 base (fun k => oki k ∨ (ok k ∧ w2.heap.size ≤ k)) v1 (zae l x).f1 := Kd.zby (Kd.R_over' hR1 (Kd.R_typed hR2) (by decide) hg) (fun k hk => .inl hk)
 have hseg1 := (Kd.H_seg hH3 h0 h1 (seg := [v2']) (j := 2) (by show 2 + 1 ≤ 6; omega) (fun q hq => by rw [List.mem_singleton.1 hq]; exact (Kd.R_val hR3).2)).1
 have hsz := hH3
 have hcell2 : ∃ u, w3.cell? ⟨g, x.toNat * 6 + 2, none⟩ = some u := ⟨v2, by rw [World.cell?_of_block (hg.block g hgl hne)]; exact hc2⟩
 have hcell5 : ∃ u, (w3.setCell ⟨g, x.toNat * 6 + 2, none⟩ v2').cell? ⟨g, x.toNat * 6 + 5, none⟩ = some u := by
  obtain ⟨rows, _, _, _, _, hc5, _⟩ := Kd.H_raw hseg1 h0 h1
  exact ⟨_, hc5 5 _ rfl⟩
 refine ⟨fun j => zaf hgb3 j, hcell2, hcell5, fun j => zaf (blk_set hgb3 _ _) j, fun now => ?_⟩
 have hseg2 := (Kd.H_seg hseg1 h0 h1 (seg := [.int .i64 now]) (j := 5) (by show 5 + 1 ≤ 6; omega) (fun q hq => by rw [List.mem_singleton.1 hq]; rfl)).1
 have hb1 := blk_set hgb3 (x.toNat * 6 + 2) v2'
 refine Kd.H_back hseg2 (x' := { zae l x with f2 := ns', f5 := now }) (okp := fun k => oki k ∨ (ok k ∧ w2.heap.size ≤ k)) ?_ (fun _ hk => hk)
 refine k45_mkM _ _ _ { zae l x with f2 := ns', f5 := now } ?_ ?_
 ·exact Kd.R_set (Kd.R_set hR13 hgb3 (by decide) _ _) hb1 (by decide) _ _
 ·exact Kd.R_set (Kd.R_set hR3 hgb3 (by decide) _ _) hb1 (by decide) _ _
def zbp (w : World) (A : Option Addr) (n c : Nat) : World := (w.alloc (.cells #[.slice A n c] 24)).alloc (.cells #[.slice none 0 0] 24)
theorem zb5 (w : World) (A : Option Addr) (n c : Nat) : Below w.heap.size w (zbp w A n c) := zac (zac (Below.refl _ _) _) _
theorem zbe {w w' : World} {A : Option Addr} {n c : Nat} (h : Below (zbp w A n c).heap.size (zbp w A n c) w') : w'.heap[w.heap.size]? = some (.cells #[.slice A n c] 24 (0, 0)) ∧ w'.heap[w.heap.size + 1]? = some (.cells #[.slice none 0 0] 24 (0, 0)) := by
 have hs : (w.alloc (.cells #[.slice A n c] 24)).heap.size = w.heap.size + 1 := World.size_alloc _ _
 have h2 : (zbp w A n c).heap.size = w.heap.size + 1 + 1 := by show ((w.alloc _).alloc _).heap.size = _; rw [World.size_alloc, hs]
 constructor
 ·exact (h.block w.heap.size (by omega)).trans (zaj (zbC w _) _)
 ·refine (h.block (w.heap.size + 1) (by omega)).trans ?_
  rw [← hs]; exact zbC _ _
theorem zaZ {w w' : World} {A : Option Addr} {n c : Nat} (h : Below (zbp w A n c).heap.size (zbp w A n c) w') : w'.cell? ⟨w.heap.size, 0, none⟩ = some (.slice A n c) := (zah (zbe h).1 0).trans rfl
theorem one6 (a b c : Int) (t : ByteArray) : ∀ q ∈ [Value.int .i64 a, .slice none 0 0, .slice none 0 0, .string t, .int .i64 b, .int .i64 c], q.oneCell' = true := by
 intro q hq; simp only [List.mem_cons, List.not_mem_nil, or_false] at hq; rcases hq with rfl | rfl | rfl | rfl | rfl | rfl <;> rfl
theorem boxed {w W : World} {x v v12 : Value} {l : List S45} {ok : Nat → Prop} (h6 : W.heap[w.heap.size]? = some (.cells #[x] 24 (0, 0))) (h12 : W.heap[w.heap.size + 1]? = some (.cells #[v12] 24 (0, 0))) (HB : Below w.heap.size w W) (HS : Kd.S k45 45 W w.heap.size ok v l) :
  (W.setCell ⟨w.heap.size, 0, none⟩ v).heap[w.heap.size]? = some (.cells #[v] 24 (0, 0)) ∧ (W.setCell ⟨w.heap.size, 0, none⟩ v).heap[w.heap.size + 1]? = some (.cells #[v12] 24 (0, 0)) ∧ Kd.S k45 45 (W.setCell ⟨w.heap.size, 0, none⟩ v) w.heap.size ok v l ∧ Below w.heap.size w (W.setCell ⟨w.heap.size, 0, none⟩ v) :=
 ⟨zaF h6 0 v rfl, zaC h12 (p := ⟨w.heap.size, 0, none⟩) (by simp) v, Kd.zbK HS h6 (by decide) 0 _, HB.setCell (p := ⟨w.heap.size, 0, none⟩) (Nat.le_refl _) _⟩
theorem links_anew {W : World} {base g c : Nat} {ok : Nat → Prop} {l : List S45} (hS : Kd.S k45 45 W base ok (.slice (some ⟨g, 0, none⟩) l.length c) l) (x : Int) (h0 : 0 ≤ x) (h1 : x < (l.length : Int)) :
  W.cell? ⟨g, x.toNat * 6 + 4, none⟩ = some (.int .i64 (zae l x).f4) ∧ W.frozen? ⟨g, x.toNat * 6 + 4, none⟩ = false ∧ ok g ∧ base ≤ g ∧ g < W.heap.size ∧
   ∀ m : Int, Kd.S k45 45 (W.setCell ⟨g, x.toNat * 6 + 4, none⟩ (.int .i64 m)) base ok (.slice (some ⟨g, 0, none⟩) l.length c) (l.set x.toNat { zae l x with f4 := m }) := by
 obtain ⟨oki, cs, hcl, hM, hcc, hoki, hH⟩ := Kd.S_lend hS z45 x h0 h1
 obtain ⟨g', cap', e', hbg, hgl, cells, hgb⟩ := Kd.S_form hS (by omega)
 injection e' with e1 _ _
 injection e1 with e1
 injection e1 with e1
 subst e1
 obtain ⟨v1, v2, rfl, hR1, hR2⟩ := k45_openM hM
 refine ⟨hcc 4 _ rfl, zaf hgb _, (Kd.S_R hS).1 g rfl, hbg, hgl, fun m => ?_⟩
 have hseg := (Kd.H_seg hH h0 h1 (seg := [.int .i64 m]) (j := 4) (by show 4 + 1 ≤ 6; omega) (fun q hq => by rw [List.mem_singleton.1 hq]; rfl)).1
 refine Kd.H_back hseg (x' := { zae l x with f4 := m }) (okp := oki) ?_ (fun _ hk => hk)
 exact k45_mkM _ _ _ { zae l x with f4 := m } (Kd.R_set hR1 hgb (by decide) _ _) (Kd.R_set hR2 hgb (by decide) _ _)
theorem data_anew {w2 : World} {base g c : Nat} {ok : Nat → Prop} {l : List S45} (hS : Kd.S k45 45 w2 base ok (.slice (some ⟨g, 0, none⟩) l.length c) l) (x : Int) (h0 : 0 ≤ x) (h1 : x < (l.length : Int)) (hbase : base ≤ w2.heap.size) (hfresh : ∀ k, w2.heap.size ≤ k → ok k) :
  ∃ (A : Option Addr) (m : Nat), w2.cell? ⟨g, x.toNat * 6 + 1, none⟩ = some (.slice A (zae l x).f1.length m) ∧ (zae l x).f1.length ≤ m ∧ Kd.C (Kd.int .u8) w2 A (zae l x).f1.length (zae l x).f1 ∧ ok g ∧ g < w2.heap.size ∧ base ≤ g ∧
   ∀ (w3 : World) (v1' : Value) (bs' : List Int), Below w2.heap.size w2 w3 → (Kd.int .u8).R 5 w3 w2.heap.size (fun _ => True) v1' bs' →
    (∀ j, w3.frozen? ⟨g, j, none⟩ = false) ∧ (∃ u, w3.cell? ⟨g, x.toNat * 6 + 1, none⟩ = some u) ∧ (∃ u, (w3.setCell ⟨g, x.toNat * 6 + 1, none⟩ v1').cell? ⟨g, x.toNat * 6 + 5, none⟩ = some u) ∧ (∀ j, (w3.setCell ⟨g, x.toNat * 6 + 1, none⟩ v1').frozen? ⟨g, j, none⟩ = false) ∧
    Kd.S k45 45 (w3.setCell ⟨g, x.toNat * 6 + 1, none⟩ v1') base ok (.slice (some ⟨g, 0, none⟩) l.length c) (l.set x.toNat { zae l x with f1 := bs' }) ∧
    ∀ now : Int, Kd.S k45 45 ((w3.setCell ⟨g, x.toNat * 6 + 1, none⟩ v1').setCell ⟨g, x.toNat * 6 + 5, none⟩ (.int .i64 now)) base ok (.slice (some ⟨g, 0, none⟩) l.length c) (l.set x.toNat { zae l x with f1 := bs', f5 := now }) := by
 obtain ⟨oki, cs, hcl, hM, hcc, hoki, hH⟩ := Kd.S_lend hS z45 x h0 h1
 obtain ⟨g', cap', e', hbg, hgl, cells, hgb⟩ := Kd.S_form hS (by omega)
 injection e' with e1 _ _
 injection e1 with e1
 injection e1 with e1
 subst e1
 obtain ⟨v1, v2, rfl, hR1, hR2⟩ := k45_openM hM
 obtain ⟨A, m, rfl, hm, hC⟩ := Kd.R_reads hR1
 refine ⟨A, m, hcc 1 _ rfl, hm, hC, (Kd.S_R hS).1 g rfl, hgl, hbg, fun w3 v1' bs' hb hR3 => ?_⟩
 have hgb3 := zaq hgb hb
 have hH3 := Kd.H_below (Kd.H_widen hH) hb
 have hR23 : k66.R 66 w3 base (fun k => oki k ∨ (ok k ∧ w2.heap.size ≤ k)) v2 (zae l x).f2 := Kd.zby (Kd.zcz hR2 hb) (fun k hk => .inl hk)
 have hR13 : (Kd.int .u8).R 5 w3 base (fun k => oki k ∨ (ok k ∧ w2.heap.size ≤ k)) v1' bs' := Kd.R_lower (Kd.zby (Kd.zcy hR3) (fun k hk => .inr ⟨hfresh k hk.2.1, hk.2.1⟩)) hbase
 have hseg1 := (Kd.H_seg hH3 h0 h1 (seg := [v1']) (j := 1) (by show 1 + 1 ≤ 6; omega) (fun q hq => by rw [List.mem_singleton.1 hq]; exact (Kd.R_val hR3).2)).1
 have hb1 := blk_set hgb3 (x.toNat * 6 + 1) v1'
 have hcell5 : ∃ u, (w3.setCell ⟨g, x.toNat * 6 + 1, none⟩ v1').cell? ⟨g, x.toNat * 6 + 5, none⟩ = some u := by
  obtain ⟨rows, _, _, _, _, hc5, _⟩ := Kd.H_raw hseg1 h0 h1
  exact ⟨_, hc5 5 _ rfl⟩
 refine ⟨fun j => zaf hgb3 j, ⟨_, (hb.cell hgl).trans (hcc 1 _ rfl)⟩, hcell5, fun j => zaf hb1 j, ?_, fun now => ?_⟩
 ·refine Kd.H_back hseg1 (x' := { zae l x with f1 := bs' }) (okp := fun k => oki k ∨ (ok k ∧ w2.heap.size ≤ k)) ?_ (fun _ hk => hk)
  exact k45_mkM _ _ _ { zae l x with f1 := bs' } (Kd.R_set hR13 hgb3 (by decide) _ _) (Kd.R_set hR23 hgb3 (by decide) _ _)
 ·have hseg2 := (Kd.H_seg hseg1 h0 h1 (seg := [.int .i64 now]) (j := 5) (by show 5 + 1 ≤ 6; omega) (fun q hq => by rw [List.mem_singleton.1 hq]; rfl)).1
  refine Kd.H_back hseg2 (x' := { zae l x with f1 := bs', f5 := now }) (okp := fun k => oki k ∨ (ok k ∧ w2.heap.size ≤ k)) ?_ (fun _ hk => hk)
  exact k45_mkM _ _ _ { zae l x with f1 := bs', f5 := now } (Kd.R_set (Kd.R_set hR13 hgb3 (by decide) _ _) hb1 (by decide) _ _) (Kd.R_set (Kd.R_set hR23 hgb3 (by decide) _ _) hb1 (by decide) _ _)
def addN (l : List S45) (dir : Int) (s : ByteArray) (node now : Int) : List S45 :=
 l.set dir.toNat { zae l dir with f2 := (zae l dir).f2.take (bs (zae l dir).f2 s) ++ ⟨s, node⟩ :: (zae l dir).f2.drop (bs (zae l dir).f2 s), f5 := now }
set_option maxHeartbeats 4000000 in
set_option maxRecDepth 100000 in
theorem tree_add.calls (W : World) (base g c : Nat) (ok : Nat → Prop) (l : List S45) (dir : Int) (s : ByteArray) (node now : Int) (hS : Kd.S k45 45 W base ok (.slice (some ⟨g, 0, none⟩) l.length c) l) (h0 : 0 ≤ dir) (h1 : dir < (l.length : Int)) (hfresh : ∀ k, W.heap.size ≤ k → ok k) (hbase : base ≤ W.heap.size) (hl : ((zae l dir).f2.length + 1) * 24 ≤ 140737488355328) (hbs : bs (zae l dir).f2 s ≤ (zae l dir).f2.length) :
  Calls Try.prog 52 #[.agg #[.slice (some ⟨g, 0, none⟩) l.length c], .int .i64 dir, .string s, .int .i64 node, .int .i64 now] W fun e w' => e = .returned (.tuple #[]) ∧ Kd.S k45 45 w' base ok (.slice (some ⟨g, 0, none⟩) l.length c) (addN l dir s node now) ∧ Below base W w' ∧ (∀ k, k < W.heap.size → ¬ ok k → w'.heap[k]? = W.heap[k]?) := by
 have hut := Try.underlying24
 have hun := Try.underlying45
 have hum := Try.underlying66
 obtain ⟨_, hlc, hC⟩ := Kd.za5 hS
 have hpl : za1.f l dir s = some ((bs (zae l dir).f2 s : Int), bsAt (zae l dir).f2 s) := by
  unfold za1.f
  rw [if_pos h0, if_pos h1, if_pos (by omega)]
 have HS := zaa.mk hS
 have HCC := zaa.mk hC
 have HPL := zaa.mk hpl
 have HFR := zaa.mk hfresh
 have HLC := zaa.mk hlc
 have p0 := eq_true h0
 have p1 := eq_true h1
 clear hS hC hpl hfresh hlc
 go_enter Try.func52, Try.ntmps52
 go_wp2_with (first | (go_at_call 66; refine (za1.calls (some ⟨g, 0, none⟩) c l dir s _ _ _ (Kd.C_below HCC.out (zac (Below.refl _ _) _)) HLC.out HPL.out).mono ?_; rintro e w2 ⟨rfl, hb⟩; have HB := zaa.mk hb; have hct := (zah (zaq (zbC W (.cells #[.slice (some ⟨g, 0, none⟩) l.length c] 24)) hb) 0).trans rfl; have HB2 := zaa.mk ((zai (zac (Below.refl W.heap.size W) _) hb).mono hbase); have hb2 := Nat.le_trans hbase HB2.out.size; have HO2 := zaa.mk (fun k (hk : k < W.heap.size) => (zai (zac (Below.refl W.heap.size W) _) hb).block k hk); have hsz2 := (zai (zac (Below.refl W.heap.size W) _) hb).size; obtain ⟨oki, v2, hc2, hR2, hoki, hokg, hgl, hbg, HK⟩ := named_anew (Kd.zbm HS.out (zai (zac (Below.refl _ _) _) hb)) dir h0 h1; have HR2 := zaa.mk hR2; have HOK := zaa.mk hoki; have HOG := zaa.mk hokg; clear hokg; have HKK := zaa.mk HK; have HFR2 := zaa.mk (fun k (hk : w2.heap.size ≤ k) => HFR.out k (Nat.le_trans (zai (zac (Below.refl W.heap.size W) _) hb).size hk)); clear hb hR2 HK hoki) | (go_at_call 67; refine (zaA.calls w2 base (fun k => oki k ∨ (ok k ∧ w2.heap.size ≤ k)) v2 _ ⟨s, node⟩ (bs (zae l dir).f2 s) hbs (Kd.zby HR2.out (fun _ hk => .inl hk)) (fun k hk => .inr ⟨HFR2.out k hk, hk⟩) hb2 hl).mono ?_; rintro e w3 ⟨v3, rfl, hR3, hg3, hat⟩; obtain ⟨A3, m3, c3, rfl⟩ := slice_any hR3; obtain ⟨hf, ⟨u2, hu2⟩, ⟨u5, hu5⟩, hf5, HFin⟩ := HKK.out w3 _ _ hg3 hR3; have HF := zaa.mk HFin; have HB3 := zaa.mk (HB2.out.grown hg3 hb2 (Kd.R_base HR2.out)); have HO3 := zaa.mk (fun k (hk : k < W.heap.size) (hn : ¬ ok k) => (hg3.block k (Nat.lt_of_lt_of_le hk hsz2) (fun e => hn (HOK.out k (HR2.out.1 k e.symm)).1)).trans (HO2.out k hk)); clear hR3 hg3 hat HFin))
 go_end0
 exact ⟨rfl, HF.out now, (HB3.out.setCell hbg _).setCell hbg _, fun k hk hn => ((Below.heap_setCell _ _ _ k (fun e => hn (e ▸ HOG.out))).trans (Below.heap_setCell _ _ _ k (fun e => hn (e ▸ HOG.out)))).trans (HO3.out k hk hn)⟩
def makeR (k : Nat) (l : List S45) (dir : Int) (s : ByteArray) (kind : Int) (target : ByteArray) : Option (Int × Int) :=
 (zbd.f k l).bind fun n => (za0.f k kind target).bind fun b => (zbM.f k l dir s b).bind fun e => some (if e = 0 then (if n = 64 then 51 else 0) else e, n)
def makeP (k : Nat) (l : List S45) (dir : Int) (kind : Int) (target : ByteArray) (now : Int) : Option Bool :=
 (zbb.f k l [dir]).bind fun m => if m = true then (za7.f now).bind fun tm => some (tm && (decide (1 ≤ kind) && (decide (kind ≤ 3) && (kind == 3 || target.toList == ([] : List UInt8))))) else some false
def makeE (k : Nat) (l : List S45) (dir : Int) (s : ByteArray) (kind : Int) (target : ByteArray) (now : Int) : Option (Int × Int) :=
 (makeP k l dir kind target now).bind fun p => if p = true then makeR k l dir s kind target else some (100, 0)
theorem makeR_mono (l : List S45) (dir : Int) (s : ByteArray) (kind : Int) (target : ByteArray) (k : Nat) : LeO (makeR k l dir s kind target) (makeR (k + 1) l dir s kind target) :=
 LeO.bind (zbd.mono _ _) fun _ => LeO.bind (za0.mono _ _ _) fun _ => LeO.bind (zbM.mono _ _ _ _ _) fun _ => LeO.refl _
theorem makeE_mono (l : List S45) (dir : Int) (s : ByteArray) (kind : Int) (target : ByteArray) (now : Int) (k : Nat) : LeO (makeE k l dir s kind target now) (makeE (k + 1) l dir s kind target now) :=
 LeO.bind (LeO.bind (zbb.mono _ _ _) fun _ => LeO.refl _) fun _ => LeO.ite (makeR_mono _ _ _ _ _ _) (LeO.refl _)
def zbH (u : List S45) (n : Int) (kind : Int) (target : ByteArray) (now : Int) : List S45 :=
 (if n = (u.length : Int) then u ++ [z45] else u).set n.toNat ⟨kind, [], [], target, 1, now⟩
def makeD (u2 : List S45) (dir : Int) (s : ByteArray) (n now : Int) : Option (List S45) :=
 if 0 ≤ dir ∧ dir < (u2.length : Int) ∧ (zae u2 dir).f2.length ≤ 1000000 ∧ bs (zae u2 dir).f2 s ≤ (zae u2 dir).f2.length then some (addN u2 dir s n now) else none
def zbD.f (k : Nat) (l0_0 : List S45) (a1 : Int) (a2 : ByteArray) (a3 : Int) (a4 : ByteArray) (a5 : Int) : Option (List S45 × Int × Int) :=
 (makeE k l0_0 a1 a2 a3 a4 a5).bind fun q => if q.1 = 0 then (zaJ.f k l0_0).bind fun u => (if 0 ≤ q.2 ∧ q.2 ≤ (u.length : Int) ∧ u.length ≤ 1000000 then (makeD (zbH u q.2 a3 a4 a5) a1 a2 q.2 a5).bind fun r => some (r, q.2, 0) else none) else (zaD.f k l0_0 q.1).bind fun b => some (b.1, 0, b.2)
theorem zbD.mono : ∀ a0 a1 a2 a3 a4 a5 k, LeO (zbD.f k a0 a1 a2 a3 a4 a5) (zbD.f (k + 1) a0 a1 a2 a3 a4 a5) := fun _ _ _ _ _ _ _ =>
 LeO.bind (makeE_mono _ _ _ _ _ _ _) fun _ => LeO.ite (LeO.bind (zaJ.mono _ _) fun _ => LeO.refl _) (LeO.bind (zaD.mono _ _ _) fun _ => LeO.refl _)
set_option maxHeartbeats 8000000 in
set_option maxRecDepth 100000 in
theorem zbD.calls (k : Nat) (A0_0 : Option Addr) (c0_0 : Nat) (l0_0 : List S45) (a1 : Int) (a2 : ByteArray) (a3 : Int) (a4 : ByteArray) (a5 : Int) (r1 : List S45) (r2 : Int) (r3 : Int) (w : World) (hr0_0 : Kd.C k45 w A0_0 l0_0.length l0_0) (hc0_0 : l0_0.length ≤ c0_0) (h : zbD.f k l0_0 a1 a2 a3 a4 a5 = some (r1, r2, r3)) :
  Calls Try.prog 26 #[.agg #[.slice A0_0 l0_0.length c0_0], .int .i64 a1, .string a2, .int .i64 a3, .string a4, .int .i64 a5] w fun e w' => ∃ v0_ : Value, e = .returned (.tuple #[.agg #[v0_], .int .i64 r2, .int .i64 r3]) ∧ Kd.S k45 45 w' w.heap.size (fun _ => True) v0_ r1 ∧ Below w.heap.size w w' := by
 obtain ⟨⟨e, n⟩, hE, h⟩ := Option.bind_eq_some_iff.mp h
 have HR := zaa.mk hr0_0
 have HC := zaa.mk hc0_0
 have HE := zaa.mk hE
 have HH := zaa.mk h
 have hut := Try.underlying24
 have hun := Try.underlying45
 have hsi := Try.underlying88
 have HW := zaa.mk (zb5 w A0_0 l0_0.length c0_0)
 have HW0 := zaa.mk (Below.refl (zbp w A0_0 l0_0.length c0_0).heap.size (zbp w A0_0 l0_0.length c0_0))
 clear hr0_0 hc0_0 hE h
 go_enter Try.func26, Try.ntmps26
 obtain ⟨p, hP, hE2⟩ := Option.bind_eq_some_iff.mp HE.out
 have HP := zaa.mk hP
 have HE2 := zaa.mk hE2
 clear hP hE2 HE
 go_upto_region 3 with (fail)
 go_cut [40] (fun v40 wc => v40 = .bool p ∧ zaa (Below (zbp w A0_0 l0_0.length c0_0).heap.size (zbp w A0_0 l0_0.length c0_0) wc))
 case first =>
  have hmm := HP.out
  clear HH HE2 HP
  unfold makeP at hmm
  obtain ⟨m, hm, hmm⟩ := Option.bind_eq_some_iff.mp hmm
  have HM := zaa.mk hm
  have HD := zaa.mk (Kd.zbL (R_of_blk (xs := [a1]) (k := .i64) (base := 0) (zbC (zbp w A0_0 l0_0.length c0_0) (.cells #[.int .i64 a1] 3)) (Nat.zero_le _) (by simp))).2.2
  have hWs : (zbp w A0_0 l0_0.length c0_0).heap.size = w.heap.size + 1 + 1 := by show ((w.alloc _).alloc _).heap.size = _; rw [World.size_alloc, World.size_alloc]
  rw [hWs] at HD
  clear hm hWs
  cases m with
  | false =>
   obtain rfl := Option.some.inj (show some false = some p from hmm)
   clear hmm
   go_wp2_with (first | (go_at_call 40; refine (zbb.calls k A0_0 c0_0 l0_0 (some ⟨w.heap.size + 1 + 1, 0, none⟩) 1 [a1] false _ (Kd.C_below HR.out (by repeat (first | exact HW.out | exact Below.refl _ _ | apply zac | apply zab | apply zad | apply zaH))) HC.out HD.out (by simp) HM.out).mono ?_; rintro e' w1 ⟨rfl, hb⟩; have HB1 := zaa.mk (zai (zac HW0.out _) hb); clear hb))
   go_meet
   case rel => exact ⟨rfl, HB1⟩
  | true =>
   obtain ⟨tm, ht, hmm⟩ := Option.bind_eq_some_iff.mp (show ((za7.f a5).bind fun tm => some (tm && (decide (1 ≤ a3) && (decide (a3 ≤ 3) && (a3 == 3 || a4.toList == ([] : List UInt8)))))) = some p from hmm)
   have HT := zaa.mk ht
   have HPP := zaa.mk (Option.some.inj hmm)
   clear ht hmm
   cases tm with
   | false =>
    have HV := zaa.mk (show p = false by rw [← HPP.out]; simp [])
    obtain rfl := HV.out
    try clear k1
    try clear k2
    try clear k3
    try clear k4
    go_wp2_with (first | (go_at_call 40; refine (zbb.calls k A0_0 c0_0 l0_0 (some ⟨w.heap.size + 1 + 1, 0, none⟩) 1 [a1] true _ (Kd.C_below HR.out (by repeat (first | exact HW.out | exact Below.refl _ _ | apply zac | apply zab | apply zad | apply zaH))) HC.out HD.out (by simp) HM.out).mono ?_; rintro e' w1 ⟨rfl, hb⟩; have HB1 := zaa.mk (zai (zac HW0.out _) hb); clear hb) | (go_at_call 45; refine (za7.calls a5 false _ HT.out).mono ?_; rintro e' w2 ⟨rfl, ⟨nd, rfl⟩⟩))
    go_meet
    case rel => exact ⟨rfl, ⟨by repeat (first | exact HB1.out | exact Below.refl _ _ | apply zac | apply zab | apply zad | apply zaH)⟩⟩
   | true =>
    by_cases k1 : 1 ≤ a3
    focus
     have K1 : decide (1 ≤ a3) = true := decide_eq_true k1
     by_cases k2 : a3 ≤ 3
     focus
      have K2 : decide (a3 ≤ 3) = true := decide_eq_true k2
      by_cases k3 : a3 = 3
      focus
       have K3 : (a3 == 3) = true := beq_iff_eq.mpr k3
       have HV := zaa.mk (show p = true by rw [← HPP.out]; simp [K1, K2, K3, k1, k2, k3])
       obtain rfl := HV.out
       try clear k1
       try clear k2
       try clear k3
       try clear k4
      rotate_left 1
      focus
       have K3 : (a3 == 3) = false := beq_eq_false_iff_ne.mpr k3
       by_cases k4 : a4.toList = ([] : List UInt8)
       focus
        have K4 : (a4.toList == ([] : List UInt8)) = true := beq_iff_eq.mpr k4
        have HV := zaa.mk (show p = true by rw [← HPP.out]; simp [K1, K2, K3, K4, k1, k2, k3, k4])
        obtain rfl := HV.out
        try clear k1
        try clear k2
        try clear k3
        try clear k4
       rotate_left 1
       focus
        have K4 : (a4.toList == ([] : List UInt8)) = false := beq_eq_false_iff_ne.mpr k4
        have HV := zaa.mk (show p = false by rw [← HPP.out]; simp [K1, K2, K3, K4, k3, k4])
        obtain rfl := HV.out
        try clear k1
        try clear k2
        try clear k3
        try clear k4
     rotate_left 3
     focus
      have K2 : decide (a3 ≤ 3) = false := decide_eq_false k2
      have HV := zaa.mk (show p = false by rw [← HPP.out]; simp [k2])
      obtain rfl := HV.out
      try clear k1
      try clear k2
      try clear k3
      try clear k4
    rotate_left 4
    focus
     have K1 : decide (1 ≤ a3) = false := decide_eq_false k1
     have HV := zaa.mk (show p = false by rw [← HPP.out]; simp [k1])
     obtain rfl := HV.out
     try clear k1
     try clear k2
     try clear k3
     try clear k4
    all_goals
     go_wp2_with (first | (go_at_call 40; refine (zbb.calls k A0_0 c0_0 l0_0 (some ⟨w.heap.size + 1 + 1, 0, none⟩) 1 [a1] true _ (Kd.C_below HR.out (by repeat (first | exact HW.out | exact Below.refl _ _ | apply zac | apply zab | apply zad | apply zaH))) HC.out HD.out (by simp) HM.out).mono ?_; rintro e' wq1 ⟨rfl, hb⟩; have HB1 := zaa.mk (zai (zac HW0.out _) hb); clear hb) | (go_at_call 45; refine (za7.calls a5 true _ HT.out).mono ?_; rintro e' w2 ⟨rfl, ⟨nd, rfl⟩⟩))
     go_meet
     case rel => exact ⟨rfl, ⟨by repeat (first | exact HB1.out | exact Below.refl _ _ | apply zac | apply zab | apply zad | apply zaH)⟩⟩
 case rest =>
  clear HP HW0
  obtain ⟨rfl, HB⟩ := hcut
  have hct := zaZ HB.out
  go_upto_if 40 with (fail)
  go_cut [15, 16] (fun v15 v16 wc => v15 = .int .i64 e ∧ v16 = .int .i64 n ∧ zaa (Below (zbp w A0_0 l0_0.length c0_0).heap.size (zbp w A0_0 l0_0.length c0_0) wc))
  case first =>
   clear HH
   cases p with
   | false =>
    have hq : (100, 0) = (e, n) := Option.some.inj HE2.out
    injection hq with hq1 hq2
    subst hq1; subst hq2
    go_wp2
    go_meet
    case rel => exact ⟨rfl, rfl, HB⟩
   | true =>
    obtain ⟨n1, hn1, hq⟩ := Option.bind_eq_some_iff.mp (show makeR k l0_0 a1 a2 a3 a4 = some (e, n) from HE2.out)
    obtain ⟨b, hb1, hq⟩ := Option.bind_eq_some_iff.mp hq
    obtain ⟨e1, he1, hq⟩ := Option.bind_eq_some_iff.mp hq
    injection (Option.some.inj hq) with hq1 hq2
    subst hq2
    have HN1 := zaa.mk hn1
    have HB1 := zaa.mk hb1
    have HE1 := zaa.mk he1
    have HQ1 := zaa.mk hq1
    clear hn1 hb1 he1 hq1 hq HE2
    go_wp2_with (first | (go_at_call 49; refine (zbd.calls k A0_0 c0_0 l0_0 n1 _ (Kd.C_below HR.out (zai HW.out HB.out)) HC.out HN1.out).mono ?_; rintro e' w1 ⟨rfl, hb⟩; have HB2 := zaa.mk (zai HB.out hb); have hct2 := zaZ HB2.out; clear hb))
    go_region_held3 (fun w' => w'.cell? ⟨w.heap.size, 0, none⟩ = some (.slice A0_0 l0_0.length c0_0)) (first | assumption | go_keep) (first | (go_at_call 51; refine (za0.calls k a3 a4 b _ HB1.out).mono ?_; rintro e' w2 ⟨rfl, ⟨nd, rfl⟩⟩) | (go_at_call 50; refine (zbM.calls k A0_0 c0_0 l0_0 a1 a2 b e1 _ (Kd.C_below HR.out (zai HW.out (by repeat (first | exact HB2.out | exact Below.refl _ _ | apply zac | apply zab | apply zad | apply zaH)))) HC.out HE1.out).mono ?_; rintro e' w3 ⟨rfl, hb⟩; have HB3 := zaa.mk (zai (show Below (zbp w A0_0 l0_0.length c0_0).heap.size (zbp w A0_0 l0_0.length c0_0) _ from by repeat (first | exact HB2.out | exact Below.refl _ _ | apply zac | apply zab | apply zad | apply zaH)) hb); have hct3 := zaZ HB3.out; clear hb))
    by_cases z1 : e1 = 0
    focus
     have Z1 : (e1 == 0) = true := beq_iff_eq.mpr z1
     have hq1 := HQ1.out
     rw [if_pos z1] at hq1
     clear z1 HQ1
     by_cases z2 : n1 = 64
     focus
      have Z2 : (n1 == 64) = true := beq_iff_eq.mpr z2
      rw [if_pos z2] at hq1
      subst hq1
      clear z2
     rotate_left 1
     focus
      have Z2 : (n1 == 64) = false := beq_eq_false_iff_ne.mpr z2
      rw [if_neg z2] at hq1
      subst hq1
      have z1' := beq_iff_eq.mp Z1
      clear z2
    rotate_left 2
    focus
     have Z1 : (e1 == 0) = false := beq_eq_false_iff_ne.mpr z1
     have hq1 := HQ1.out
     rw [if_neg z1] at hq1
     subst hq1
     clear z1 HQ1
    all_goals
     go_wp2
     go_meet
     case rel => first | (exact ⟨rfl, rfl, HB3⟩) | (exact ⟨by rw [beq_iff_eq.mp Z1], rfl, HB3⟩)
  case rest =>
   clear HE2
   obtain ⟨rfl, rfl, HB⟩ := hcut
   have hct := zaZ HB.out
   by_cases z1 : e = 0
   ·have Z1 : (e != 0) = false := by simpa using z1
    have HSZ : zaa (w.heap.size + 2 ≤ wc.heap.size) := ⟨by have := HB.out.size; have h2 : (zbp w A0_0 l0_0.length c0_0).heap.size = w.heap.size + 1 + 1 := (by show ((w.alloc _).alloc _).heap.size = _; rw [World.size_alloc, World.size_alloc]); omega⟩
    obtain rfl := z1
    have hq := HH.out
    rw [if_pos rfl] at hq
    obtain ⟨u, hu, hq⟩ := Option.bind_eq_some_iff.mp hq
    split at hq
    ·rename_i hg0
     obtain ⟨r, hr, hq⟩ := Option.bind_eq_some_iff.mp hq
     injection (Option.some.inj hq) with hq1 hq2
     injection hq2 with hq2 hq3
     subst hq1; subst hq2; subst hq3
     unfold makeD at hr
     split at hr
     ·rename_i hg1
      have HADD := zaa.mk (Option.some.inj hr)
      have HU := zaa.mk hu
      have HG1 := zaa.mk hg1
      obtain ⟨n0, n1, u1⟩ := hg0
      clear HH hq hu hr hg1
      obtain ⟨N, rfl⟩ : ∃ N : Nat, n = (N : Int) := ⟨n.toNat, by omega⟩
      by_cases hn : N = u.length
      ·subst hn
       have Z2 : ((u.length : Int) == (u.length : Int)) = true := beq_self_eq_true _
       have HL2 : zaa ((zbH u (u.length : Int) a3 a4 a5).length = u.length + 1 ∧ (u ++ [z45]).set (u.length : Int).toNat ⟨a3, [], [], a4, 1, a5⟩ = zbH u (u.length : Int) a3 a4 a5) := ⟨by unfold zbH; rw [if_pos rfl]; exact ⟨by simp, rfl⟩⟩
       have p0 := eq_true (show (0 : Int) ≤ (u.length : Int) by omega)
       have p1 := eq_true (show (u.length : Int) < (u.length : Int) + 1 by omega)
       have p2 : u.length < u.length + 1 := by omega
       go_wp2_with (first | (go_at_call 42; refine (zaJ.calls k A0_0 c0_0 l0_0 u _ (Kd.C_below HR.out (zai HW.out HB.out)) HC.out HU.out).mono ?_; rintro e' w1 ⟨v, rfl, hS, hb⟩; obtain ⟨vA, vc0, rfl⟩ := Kd.zbc hS; have HB1 := zai HB.out hb; have hK := zbe HB1; have hX := boxed hK.1 hK.2 (zai HW.out HB1) (Kd.za8 (Kd.zbw (ok' := (fun k => k ≠ w.heap.size ∧ k ≠ w.heap.size + 1)) (Kd.S_bound hS) (fun k hk => ⟨by have := HSZ.out; have := hk.2.1; omega, by have := HSZ.out; have := hk.2.1; omega⟩)) (zai HW.out HB.out).size); have hct1 := zaZ HB1; have hf1 := zaf hK.1 0; have HK6 := zaa.mk hX.1; have HK12 := zaa.mk hX.2.1; have HS1 := zaa.mk hX.2.2.1; have HB2 := zaa.mk hX.2.2.2; have hct2 := (zah HK6.out 0).trans rfl; have hf2 := zaf HK6.out 0; clear hS hb hX HB1 hK) | (at_builtin; refine Kd.S_append k45 (w0 := w) w.heap.size rfl (.tmp 74) (.tmp 76) 22 45 (.agg #[.int .i64 0, .slice none 0 0, .slice none 0 0, .string ⟨#[]⟩, .int .i64 0, .int .i64 0]) 88 rfl Try.underlying22 info45 rfl (by decide) (by omega) (.slice vA u.length vc0) u z45 [.int .i64 0, .slice none 0 0, .slice none 0 0, .string ⟨#[]⟩, .int .i64 0, .int .i64 0] (fun k => k ≠ w.heap.size ∧ k ≠ w.heap.size + 1) (fun _ => False) rfl ?hx (k45_mkM _ _ _ z45 (Kd.R_nil _ _ _ _ _) (Kd.R_nil _ _ _ _ _)) (fun _ hk => hk.elim) (fun q hq => ⟨by have := zaV HK12.out; omega, by have := zaV HK12.out; omega⟩) (Kd.zbw HS1.out (fun _ hk => ⟨hk, fun h => h⟩)) HB2.out HB2.out.size (by omega) ?_; (case hx => exact congrArg (fun q => Value.slice (some ⟨q, 0, none⟩) 1 1) (show w1.heap.size = (w1.setCell ⟨w.heap.size, 0, none⟩ (.slice vA u.length vc0)).heap.size by simp [World.setCell])); intro v2 w2 hS2 hb2 hg2 hat; obtain ⟨g, vc, e2, hgN, hgl, _⟩ := Kd.S_form hS2 (by simp); rw [show (u ++ [z45]).length = u.length + 1 from by simp] at e2; subst e2; have h6 := zbr HK6.out hg2 (Kd.S_ne HS1.out HK6.out (by decide)); have h12 := zbr HK12.out hg2 (Kd.S_ne HS1.out HK12.out (by decide)); have hX := boxed h6 h12 hb2 hS2; have hct3 := (zah h6 0).trans rfl; have hf3 := zaf h6 0; clear HK6 HK12 HS1 HB2; have HK6 := zaa.mk hX.1; have HK12 := zaa.mk hX.2.1; have HS1 := zaa.mk hX.2.2.1; have HB2 := zaa.mk hX.2.2.2; have hct4 := (zah HK6.out 0).trans rfl; have hf4 := zaf HK6.out 0; clear hS2 hb2 hg2 hat h6 h12 hX; obtain ⟨oki, cs, hcl, _, _, _, hH⟩ := Kd.S_lend HS1.out z45 ((u.length : Int) : Int) (by omega) (by omega); have HCL := zaa.mk hcl; have HH1 := zaa.mk hH; clear hcl hH) | (refine Kd.H_store k45 (w0 := w) w.heap.size rfl rfl 45 (.tmp 86) (.tmp 85) rfl 45 (o' := u.length * 6) ((u.length : Int) : Int) 0 (u ++ [z45]) ⟨a3, [], [], a4, 1, a5⟩ (.agg #[.int .i64 a3, .slice none 0 0, .slice none 0 0, .string a4, .int .i64 1, .int .i64 a5]) [.int .i64 a3, .slice none 0 0, .slice none 0 0, .string a4, .int .i64 1, .int .i64 a5] cs (fun k => k ≠ w.heap.size ∧ k ≠ w.heap.size + 1) oki (fun _ => False) rfl rfl rfl rfl (by kernel_rfl) (one6 _ _ _ _) HH1.out (by omega) (by omega) (by show 0 + 6 ≤ 6; omega) (by rw [List.drop_eq_nil_of_le (by rw [HCL.out]; show 6 ≤ 0 + 6; omega)]; exact k45_mkM _ _ _ ⟨a3, [], [], a4, 1, a5⟩ (Kd.R_nil _ _ _ _ _) (Kd.R_nil _ _ _ _ _)) (fun _ hk => hk.elim) HB2.out ?_; intro w4 hS4 hb4 hg4; have HNE := Kd.S_ne HS1.out HK6.out (by decide); have HNE12 := Kd.S_ne HS1.out HK12.out (by decide); have HK6b := zaa.mk (zbr HK6.out hg4 HNE); have HK12b := zaa.mk (zbr HK12.out hg4 HNE12); have HS4 := zaa.mk hS4; have HB4 := zaa.mk hb4; have hct6 := (zah HK6b.out 0).trans rfl; have hct412 := (zah HK12b.out 0).trans rfl; clear hS4 hb4 hg4 HNE HNE12) | (go_at_call 52; have hadd := tree_add.calls w4 w.heap.size g vc (fun k => k ≠ w.heap.size ∧ k ≠ w.heap.size + 1) (zbH u ((u.length : Int) : Int) a3 a4 a5) a1 a2 ((u.length : Int) : Int) a5 (by rw [HL2.out.1, ← HL2.out.2]; exact HS4.out) HG1.out.1 HG1.out.2.1 (fun q hq => ⟨by have := zaV HK12b.out; omega, by have := zaV HK12b.out; omega⟩) HB4.out.size (by have := HG1.out.2.2.1; omega) HG1.out.2.2.2; rw [HL2.out.1] at hadd; refine hadd.mono ?_; rintro e' w5 ⟨rfl, hS5, hb5, ho5⟩; have HK6c := zaa.mk ((ho5 w.heap.size (zaV HK6b.out) (by simp)).trans HK6b.out); have HK12c := zaa.mk ((ho5 (w.heap.size + 1) (zaV HK12b.out) (by simp)).trans HK12b.out); have HS5 := zaa.mk hS5; have HB5 := zaa.mk (HB4.out.trans hb5); have hct5 := (zah HK6c.out 0).trans rfl; have hct512 := (zah HK12c.out 0).trans rfl; have hf512 := zaf HK12c.out 0; clear hadd hS5 hb5 ho5))
       refine bodyPost_ret (results_ctt rfl _ _ (w.heap.size + 1) 24 #[.slice (some ⟨g, 0, none⟩) (u.length + 1) vc] (0, 0) _ rfl (zaF HK12c.out 0 _ rfl) Try.underlying24 rfl (by kernel_rfl)) rfl ?_
       refine ⟨_, rfl, ?_, HB5.out.setCell (p := ⟨w.heap.size + 1, 0, none⟩) (by show _ ≤ _ + 1; omega) _⟩
       rw [← HADD.out]
       exact Kd.zbw (Kd.zbK HS5.out HK12c.out (by decide) 0 _) (fun _ _ => trivial)
      ·have Z2 : ((N : Int) == (u.length : Int)) = false := beq_eq_false_iff_ne.mpr (by omega)
       have Z2b : (N == u.length) = false := beq_eq_false_iff_ne.mpr (by omega)
       have hlt : N < u.length := by omega
       have HL2 : zaa ((zbH u (N : Int) a3 a4 a5).length = u.length ∧ u.set (N : Int).toNat ⟨a3, [], [], a4, 1, a5⟩ = zbH u (N : Int) a3 a4 a5) := ⟨by unfold zbH; rw [if_neg (by omega)]; exact ⟨List.length_set, rfl⟩⟩
       have p0 := eq_true (show (0 : Int) ≤ (N : Int) by omega)
       have p1 := eq_true (show (N : Int) < (u.length : Int) by omega)
       go_wp2_with (first | (go_at_call 42; refine (zaJ.calls k A0_0 c0_0 l0_0 u _ (Kd.C_below HR.out (zai HW.out HB.out)) HC.out HU.out).mono ?_; rintro e' w1 ⟨v, rfl, hS, hb⟩; obtain ⟨g, vc, rfl, hgN, hgl, _⟩ := Kd.S_form hS (by omega); have HB1 := zai HB.out hb; have hK := zbe HB1; have hX := boxed hK.1 hK.2 (zai HW.out HB1) (Kd.za8 (Kd.zbw (ok' := (fun k => k ≠ w.heap.size ∧ k ≠ w.heap.size + 1)) (Kd.S_bound hS) (fun k hk => ⟨by have := HSZ.out; have := hk.2.1; omega, by have := HSZ.out; have := hk.2.1; omega⟩)) (zai HW.out HB.out).size); have hct1 := zaZ HB1; have hf1 := zaf hK.1 0; have HK6 := zaa.mk hX.1; have HK12 := zaa.mk hX.2.1; have HS1 := zaa.mk hX.2.2.1; have HB2 := zaa.mk hX.2.2.2; have hct2 := (zah HK6.out 0).trans rfl; have hf2 := zaf HK6.out 0; clear hS hb hX HB1 hK; obtain ⟨oki, cs, hcl, _, _, _, hH⟩ := Kd.S_lend HS1.out z45 ((N : Int) : Int) (by omega) (by omega); have HCL := zaa.mk hcl; have HH1 := zaa.mk hH; clear hcl hH) | (refine Kd.H_store k45 (w0 := w) w.heap.size rfl rfl 45 (.tmp 86) (.tmp 85) rfl 45 (o' := N * 6) ((N : Int) : Int) 0 u ⟨a3, [], [], a4, 1, a5⟩ (.agg #[.int .i64 a3, .slice none 0 0, .slice none 0 0, .string a4, .int .i64 1, .int .i64 a5]) [.int .i64 a3, .slice none 0 0, .slice none 0 0, .string a4, .int .i64 1, .int .i64 a5] cs (fun k => k ≠ w.heap.size ∧ k ≠ w.heap.size + 1) oki (fun _ => False) rfl rfl rfl rfl (by kernel_rfl) (one6 _ _ _ _) HH1.out (by omega) (by omega) (by show 0 + 6 ≤ 6; omega) (by rw [List.drop_eq_nil_of_le (by rw [HCL.out]; show 6 ≤ 0 + 6; omega)]; exact k45_mkM _ _ _ ⟨a3, [], [], a4, 1, a5⟩ (Kd.R_nil _ _ _ _ _) (Kd.R_nil _ _ _ _ _)) (fun _ hk => hk.elim) HB2.out ?_; intro w4 hS4 hb4 hg4; have HNE := Kd.S_ne HS1.out HK6.out (by decide); have HNE12 := Kd.S_ne HS1.out HK12.out (by decide); have HK6b := zaa.mk (zbr HK6.out hg4 HNE); have HK12b := zaa.mk (zbr HK12.out hg4 HNE12); have HS4 := zaa.mk hS4; have HB4 := zaa.mk hb4; have hct4 := (zah HK6b.out 0).trans rfl; have hct412 := (zah HK12b.out 0).trans rfl; clear hS4 hb4 hg4 HNE HNE12) | (go_at_call 52; have hadd := tree_add.calls w4 w.heap.size g vc (fun k => k ≠ w.heap.size ∧ k ≠ w.heap.size + 1) (zbH u ((N : Int) : Int) a3 a4 a5) a1 a2 ((N : Int) : Int) a5 (by rw [HL2.out.1, ← HL2.out.2]; exact HS4.out) HG1.out.1 HG1.out.2.1 (fun q hq => ⟨by have := zaV HK12b.out; omega, by have := zaV HK12b.out; omega⟩) HB4.out.size (by have := HG1.out.2.2.1; omega) HG1.out.2.2.2; rw [HL2.out.1] at hadd; refine hadd.mono ?_; rintro e' w5 ⟨rfl, hS5, hb5, ho5⟩; have HK6c := zaa.mk ((ho5 w.heap.size (zaV HK6b.out) (by simp)).trans HK6b.out); have HK12c := zaa.mk ((ho5 (w.heap.size + 1) (zaV HK12b.out) (by simp)).trans HK12b.out); have HS5 := zaa.mk hS5; have HB5 := zaa.mk (HB4.out.trans hb5); have hct5 := (zah HK6c.out 0).trans rfl; have hct512 := (zah HK12c.out 0).trans rfl; have hf512 := zaf HK12c.out 0; clear hadd hS5 hb5 ho5))
       refine bodyPost_ret (results_ctt rfl _ _ (w.heap.size + 1) 24 #[.slice (some ⟨g, 0, none⟩) u.length vc] (0, 0) _ rfl (zaF HK12c.out 0 _ rfl) Try.underlying24 rfl (by kernel_rfl)) rfl ?_
       refine ⟨_, rfl, ?_, HB5.out.setCell (p := ⟨w.heap.size + 1, 0, none⟩) (by show _ ≤ _ + 1; omega) _⟩
       rw [← HADD.out]
       exact Kd.zbw (Kd.zbK HS5.out HK12c.out (by decide) 0 _) (fun _ _ => trivial)
     ·cases hr
    ·cases hq
   ·have Z1 : (e != 0) = true := by simpa using z1
    have hq := HH.out
    rw [if_neg z1] at hq
    obtain ⟨⟨b1, b2⟩, hbad, hq⟩ := Option.bind_eq_some_iff.mp hq
    have HBAD := zaa.mk hbad
    injection (Option.some.inj hq) with hq1 hq2
    injection hq2 with hq2 hq3
    subst hq1; subst hq2; subst hq3
    clear HH hq hbad z1
    go_wp2_with (first | (go_at_call 41; refine (zaD.calls k A0_0 c0_0 l0_0 e b1 b2 _ (Kd.C_below HR.out (zai HW.out HB.out)) HC.out HBAD.out).mono ?_; rintro e' w1 ⟨v, rfl, hS, hb⟩; obtain ⟨vA, vc, rfl⟩ := Kd.zbc hS; have HS1 := zaa.mk hS; have HB1 := zaa.mk (zai HB.out hb); have HK := zaa.mk (zbe HB1.out); have hct1 := zaZ HB1.out; have hf1 := zaf HK.out.1 0; have HK2 := zaa.mk (zaF HK.out.1 0 (.slice vA b1.length vc) rfl); have HK3 := zaa.mk (zaC HK.out.2 (p := ⟨w.heap.size, 0, none⟩) (by simp) (.slice vA b1.length vc)); have hct2 := (zah HK2.out 0).trans rfl; have hct3 := (zah HK3.out 0).trans rfl; have hf3 := zaf HK3.out 0; clear hS hb))
    refine bodyPost_ret (results_ctt rfl _ _ (w.heap.size + 1) 24 #[.slice vA b1.length vc] (0, 0) _ rfl (zaF HK3.out 0 _ rfl) Try.underlying24 rfl (by kernel_rfl)) rfl ?_
    refine ⟨_, rfl, Kd.zbK (Kd.zbK (Kd.za8 HS1.out (zai HW.out HB.out).size) HK.out.1 (by decide) 0 _) HK3.out (by decide) 0 _, ?_⟩
    exact ((zai HW.out HB1.out).setCell (p := ⟨w.heap.size, 0, none⟩) (Nat.le_refl _) _).setCell (p := ⟨w.heap.size + 1, 0, none⟩) (by show _ ≤ _ + 1; omega) _
def tree_New.f  : Option ((List (S45))) := some (([(⟨2, ([] : List Int), ([] : List (S66)), (⟨#[]⟩ : ByteArray), 1, 0⟩ : S45)] : List (S45)))
set_option maxHeartbeats 8000000 in
set_option maxRecDepth 100000 in
theorem tree_New.calls  (r : List (S45)) (w : World) (h : tree_New.f  = some r) :
  Calls Try.prog 39 #[] w fun e w' => ∃ v0_ : Value, e = .returned (.agg #[v0_]) ∧ Kd.S k45 45 w' w.heap.size (fun _ => True) v0_ r ∧ Below w.heap.size w w' := by
 have hu24 := Try.underlying24
 have hu45 := Try.underlying45
 have HB := zaa.mk (Below.refl w.heap.size w)
 have H : (some (([(⟨2, ([] : List Int), ([] : List (S66)), (⟨#[]⟩ : ByteArray), 1, 0⟩ : S45)] : List (S45)))) = some r := h
 clear h
 obtain ⟨y245, hy245⟩ : ∃ y_ : List (S45), y_ = (([(⟨2, ([] : List Int), ([] : List (S66)), (⟨#[]⟩ : ByteArray), 1, 0⟩ : S45)] : List (S45))) := ⟨_, rfl⟩
 replace H : (some y245) = some r := by first | (rw [hy245]; with_reducible exact H) | (have H2_ := (Option.bind_some _ _).symm.trans H; rw [hy245]; with_reducible exact H2_) | (have H2_ := (Option.bind_some _ _).symm.trans H; with_reducible exact H2_) | with_reducible exact H | (rw [hy245]; exact H) | exact H
 have Ny245 := zaa.mk hy245
 clear hy245
 obtain rfl := Option.some.inj H
 go_enter Try.func39, Try.ntmps39
 go_wp2_with (first | ((with_reducible refine zaT (N := 0) rfl ?_); refine zaN ?hg (N := 0) ?hd (cs := #[.slice none 0 0]) (t := 24) ?hr ?_; (case hd => rfl); (case hg => rfl); (case hr => first | (go_simp; done) | (go_simp; rfl)); intro gb244 hg w1 hbox hb; have n0_ := zaa.mk (zai (by repeat (first | (with_reducible first | exact HB.out | apply zac | apply zab | apply zad) | exact HB.out)) hb); have n1_ := zaa.mk (hbox); have n2_ := zaa.mk ((by rw [hg]; exact (zao (by repeat (first | (with_reducible first | exact HB.out | apply zac | apply zab | apply zad) | exact HB.out))) : w.heap.size ≤ gb244)); have n3_ := zaa.mk ((by rw [hg]; exact (zao (by repeat (first | (with_reducible first | exact HB.out | apply zac | apply zab | apply zad) | exact HB.out))) : w.heap.size ≤ gb244)); clear HB; have HB := n0_; have BK244 := n1_; have GW244 := n2_; have GE244 := n3_; clear n0_ n1_ n2_ n3_; clear hb hbox hg) | ((with_reducible refine zaT (N := 2) rfl ?_); refine Kd.S_lit k45 _ 45 ?hg (N := 2) ?hd (xs := ([(⟨2, ([] : List Int), ([] : List (S66)), (⟨#[]⟩ : ByteArray), 1, 0⟩ : S45)] : List (S45))) (inner := [.int .i64 2, .slice none 0 0, .slice none 0 0, .string (⟨#[]⟩ : ByteArray), .int .i64 1, .int .i64 0]) (ok := fun _ => True) (okp := fun _ => True) ?hr ?hp (fun _ hk => hk) trivial (Below.refl _ _) (Nat.le_refl _) (by simp) ?_; (case hd => rfl); (case hg => rfl); (case hr => first | (go_simp; done) | (go_simp; rfl)); (case hp => exact (Reps.c6 (show Kd.M k45 _ _ _ (⟨2, ([] : List Int), ([] : List (S66)), (⟨#[]⟩ : ByteArray), 1, 0⟩ : S45) [.int .i64 2, .slice none 0 0, .slice none 0 0, .string (⟨#[]⟩ : ByteArray), .int .i64 1, .int .i64 0] from (k45_mkM _ _ _ (⟨2, ([] : List Int), ([] : List (S66)), (⟨#[]⟩ : ByteArray), 1, 0⟩ : S45) (Kd.R_nil _ _ _ _ _) (Kd.R_nil _ _ _ _ _))) (Reps.none _ _))); intro v246 w2 ho3 hb hg_ hnew_; clear hg_ hnew_; (first | rw [← Ny245.out] at ho3 | (simp only [Int.reduceToNat] at ho3; rw [← Ny245.out] at ho3)); have n0_ := zaa.mk (Kd.za8 ho3 (zao (by repeat (first | (with_reducible first | exact HB.out | apply zac | apply zab | apply zad | refine zal ?_ GE244.out) | exact HB.out)))); have n1_ := zaa.mk (zaq (g := gb244) (o := .cells #[.slice none 0 0] 24 (0, 0)) (by (with_reducible repeat (first | refine zak ?_ _ | refine zam ?_ | refine zaj ?_ _)); exact BK244.out) hb); have n2_ := zaa.mk (zai (by repeat (first | (with_reducible first | exact HB.out | apply zac | apply zab | apply zad | refine zal ?_ GE244.out) | exact HB.out)) hb); clear BK244; clear HB; have HO247 := n0_; have BK244 := n1_; have HB := n2_; clear n0_ n1_ n2_; clear hb ho3; obtain ⟨Ao4, co4, eo4⟩ := Kd.zbc HO247.out; subst eo4; have hcz5_0 : w2.cell? ⟨gb244, 0, none⟩ = some (.slice none 0 0) := (zah BK244.out 0).trans rfl; have hfz5_0 := zaf BK244.out 0))
 refine bodyPost_ret (results_cell_row rfl _ _ gb244 24 #[.slice Ao4 y245.length co4] (0, 0) _ rfl (by (with_reducible repeat (first | refine zak ?_ _ | refine zam ?_ | refine zaj ?_ _)); refine zaF (cs := #[.slice none 0 0]) ?_ 0 _ rfl; (with_reducible repeat (first | refine zak ?_ _ | refine zam ?_ | refine zaj ?_ _)); exact BK244.out) Try.underlying24 rfl (by kernel_rfl)) rfl ?_
 exact ⟨_, by first | rfl | (simp [zas, zar] <;> rfl) | (simp [*, zas, zar] <;> rfl), by (with_reducible repeat (first | apply Kd.zbt | apply Kd.zbs | apply Kd.zbJ)); exact Kd.zbw (Kd.S_far (p := ⟨gb244, 0, none⟩) (Kd.S_types HO247.out BK244.out (by decide)) (fun _ hk => hk.2) (.slice Ao4 y245.length co4)) (fun _ hk => trivial), by repeat (first | (with_reducible first | exact HB.out | apply zac | apply zab | apply zad | refine zal ?_ GE244.out) | exact HB.out)⟩
def za4.f (k : Nat)  : Option (Bool) := (tree_New.f).bind fun t248 => ((zbD.f k t248 0 (⟨#[97]⟩ : ByteArray) 1 (⟨#[]⟩ : ByteArray) 5).bind fun bt251 => ((zbi.f bt251.2.2).bind fun t257 => (if t257 = 0 then (if bt251.2.1 = 1 then (if (bt251.1.length : Int) = 2 then (if 1 < (bt251.1.length : Int) then (some (((zae bt251.1 1).f0) == 1)) else (none)) else (some false)) else (some false)) else (some false))))
theorem za4.mono : ∀ k, LeO (za4.f k ) (za4.f (k + 1) ) := by
 intro  k
 unfold za4.f
 repeat' first
   | (with_reducible exact zbD.mono _ _ _ _ _ _ _)
   | (with_reducible exact LeO.refl _)
   | (with_reducible exact LeO.none _)
   | (with_reducible refine LeO.ite ?_ ?_)
   | (with_reducible refine LeO.bind ?_ (fun _ => ?_))
   | exact zbD.mono _ _ _ _ _ _ _
   | exact LeO.none _
   | refine LeO.ite ?_ ?_
   | refine LeO.bind ?_ (fun _ => ?_)
set_option maxHeartbeats 8000000 in
set_option maxRecDepth 100000 in
theorem za4.calls (k : Nat)  (r : Bool) (w : World) (h : za4.f k  = some r) :
  Calls Try.prog 16 #[] w fun e w' => e = .returned (.bool r) ∧ Below w.heap.size w w' := by
 have hu24 := Try.underlying24
 have HB := zaa.mk (Below.refl w.heap.size w)
 have H : ((tree_New.f).bind fun t248 => ((zbD.f k t248 0 (⟨#[97]⟩ : ByteArray) 1 (⟨#[]⟩ : ByteArray) 5).bind fun bt251 => ((zbi.f bt251.2.2).bind fun t257 => (if t257 = 0 then (if bt251.2.1 = 1 then (if (bt251.1.length : Int) = 2 then (if 1 < (bt251.1.length : Int) then (some (((zae bt251.1 1).f0) == 1)) else (none)) else (some false)) else (some false)) else (some false))))) = some r := h
 clear h
 replace H := Option.bind_eq_some_iff.mp H
 obtain ⟨t248, A10, H⟩ := H
 replace H : ((zbD.f k t248 0 (⟨#[97]⟩ : ByteArray) 1 (⟨#[]⟩ : ByteArray) 5).bind fun bt251 => ((zbi.f bt251.2.2).bind fun t257 => (if t257 = 0 then (if bt251.2.1 = 1 then (if (bt251.1.length : Int) = 2 then (if 1 < (bt251.1.length : Int) then (some (((zae bt251.1 1).f0) == 1)) else (none)) else (some false)) else (some false)) else (some false)))) = some r := H
 have A1 := zaa.mk A10
 clear A10
 replace H := Option.bind_eq_some_iff.mp H
 obtain ⟨⟨t251, t254, t255⟩, A20, H⟩ := H
 replace H : ((zbi.f t255).bind fun t257 => (if t257 = 0 then (if t254 = 1 then (if (t251.length : Int) = 2 then (if 1 < (t251.length : Int) then (some (((zae t251 1).f0) == 1)) else (none)) else (some false)) else (some false)) else (some false))) = some r := H
 have A2 := zaa.mk A20
 clear A20
 replace H := Option.bind_eq_some_iff.mp H
 obtain ⟨t257, A30, H⟩ := H
 replace H : (if t257 = 0 then (if t254 = 1 then (if (t251.length : Int) = 2 then (if 1 < (t251.length : Int) then (some (((zae t251 1).f0) == 1)) else (none)) else (some false)) else (some false)) else (some false)) = some r := H
 have A3 := zaa.mk A30
 clear A30
 by_cases c4 : t257 = 0
 ·rw [if_pos c4] at H
  have c4b0 : (t257 == 0) = true := beq_iff_eq.mpr c4
  have c4b1 : (t257 != 0) = false := bne_eq_false_iff_eq.mpr c4
  clear c4
  by_cases c5 : t254 = 1
  ·rw [if_pos c5] at H
   have c5b0 : (t254 == 1) = true := beq_iff_eq.mpr c5
   have c5b1 : (t254 != 1) = false := bne_eq_false_iff_eq.mpr c5
   clear c5
   by_cases c6 : (t251.length : Int) = 2
   ·rw [if_pos c6] at H
    have c6b0 : ((t251.length : Int) == 2) = true := beq_iff_eq.mpr c6
    have c6b1 : ((t251.length : Int) != 2) = false := bne_eq_false_iff_eq.mpr c6
    clear c6
    by_cases c7 : 1 < (t251.length : Int)
    ·rw [if_pos c7] at H
     have c7b0 : decide (1 < (t251.length : Int)) = true := decide_eq_true c7
     have c7b1 : decide (1 < t251.length) = true := decide_eq_true (by omega)
     clear c7
     obtain rfl := Option.some.inj H
     go_enter Try.func16, Try.ntmps16
     go_wp2_with (first | ((with_reducible refine zaW (f := 39) rfl ?_); refine zbE (some 5) rfl rfl Try.func39 (by kernel_rfl) rfl #[] rfl (by (try simp only [List.map_toArray, List.map_cons, List.map_nil]); first | done | rfl | (simp only [List.length_drop, List.length_take]; rfl)) ?_; (with_reducible refine (tree_New.calls  t248 _ A1.out).mono ?_); rintro e w8 ⟨v249, rfl, ho0, hb⟩; refine ⟨_, rfl, ?_⟩; have n0_ := zaa.mk (Kd.za8 ho0 (zao (by repeat (first | (with_reducible first | exact HB.out | apply zac | apply zab | apply zad) | exact HB.out)))); have n1_ := zaa.mk (zai (by repeat (first | (with_reducible first | exact HB.out | apply zac | apply zab | apply zad) | exact HB.out)) hb); clear HB; have HO250 := n0_; have HB := n1_; clear n0_ n1_; (try clear hb); (try clear hb2); (try clear hk); (try clear hi); (try clear ho0); obtain ⟨Ao9, co9, eo9⟩ := Kd.zbc HO250.out; subst eo9) | ((with_reducible refine zaW (f := 26) rfl ?_); refine zbE (some 6) rfl rfl Try.func26 (by kernel_rfl) rfl #[.agg #[.slice Ao9 t248.length co9], .int .i64 0, .string (⟨#[97]⟩ : ByteArray), .int .i64 1, .string (⟨#[]⟩ : ByteArray), .int .i64 5] rfl (by (try simp only [List.map_toArray, List.map_cons, List.map_nil]); first | done | rfl | (simp only [List.length_drop, List.length_take]; rfl)) ?_; (with_reducible refine (zbD.calls k _ _ t248 0 (⟨#[97]⟩ : ByteArray) 1 (⟨#[]⟩ : ByteArray) 5 t251 t254 t255 _ ?side1 ?side2 A2.out).mono ?_); (case side1 => repeat (first | exact (Kd.za5 HO250.out).2.2 | (with_reducible refine Kd.C_alloc ?_ _) | (with_reducible refine Kd.C_drewN ?_ _) | (with_reducible refine Kd.C_drew ?_))); (case side2 => exact (Kd.za5 HO250.out).2.1); rintro e w10 ⟨v252, rfl, ho0, hb⟩; refine ⟨_, rfl, ?_⟩; have n0_ := zaa.mk (Kd.S_elder' (by (with_reducible repeat (first | apply Kd.zbt | apply Kd.zbs | apply Kd.zbJ)); exact HO250.out) (Kd.S_base ho0) hb); have n1_ := zaa.mk (Kd.za8 (Kd.S_new' ho0 (Kd.S_lt (by (with_reducible repeat (first | apply Kd.zbt | apply Kd.zbs | apply Kd.zbJ)); exact HO250.out))) (zao (by repeat (first | (with_reducible first | exact HB.out | apply zac | apply zab | apply zad) | exact HB.out)))); have n2_ := zaa.mk (zai (by repeat (first | (with_reducible first | exact HB.out | apply zac | apply zab | apply zad) | exact HB.out)) hb); clear HO250; clear HB; have HO250 := n0_; have HO253 := n1_; have HB := n2_; clear n0_ n1_ n2_; (try clear hb); (try clear hb2); (try clear hk); (try clear hi); (try clear ho0)) | ((with_reducible refine zaT (N := 1) rfl ?_); (try (refine zbB (by rfl) ?_; dsimp only)); refine zaN ?hg (N := 1) ?hd (cs := #[.slice none 0 0]) (t := 24) ?hr ?_; (case hd => rfl); (case hg => rfl); (case hr => first | (go_simp; done) | (go_simp; rfl)); intro gb256 hg w11 hbox hb; have n0_ := zaa.mk (Kd.zbm (by (with_reducible repeat (first | apply Kd.zbt | apply Kd.zbs | apply Kd.zbJ)); exact HO250.out) hb); have n1_ := zaa.mk (Kd.zbm (by (with_reducible repeat (first | apply Kd.zbt | apply Kd.zbs | apply Kd.zbJ)); exact HO253.out) hb); have n2_ := zaa.mk (zai (by repeat (first | (with_reducible first | exact HB.out | apply zac | apply zab | apply zad) | exact HB.out)) hb); have n3_ := zaa.mk (hbox); have n4_ := zaa.mk ((by rw [hg]; exact (zao (by repeat (first | (with_reducible first | exact HB.out | apply zac | apply zab | apply zad) | exact HB.out))) : w.heap.size ≤ gb256)); have n5_ := zaa.mk ((by rw [hg]; exact (zao (by repeat (first | (with_reducible first | exact HB.out | apply zac | apply zab | apply zad) | exact HB.out))) : w.heap.size ≤ gb256)); clear HO250; clear HO253; clear HB; have HO250 := n0_; have HO253 := n1_; have HB := n2_; have BK256 := n3_; have GW256 := n4_; have GE256 := n5_; clear n0_ n1_ n2_ n3_ n4_ n5_; clear hb hbox hg; obtain ⟨Ao12, co12, eo12⟩ := Kd.zbc HO253.out; subst eo12; have hcz13_0 : w11.cell? ⟨gb256, 0, none⟩ = some (.slice none 0 0) := (zah BK256.out 0).trans rfl; have hfz13_0 := zaf BK256.out 0) | ((with_reducible refine gate_store (t := 24) (p := 1) rfl ?_); refine store_event (t := 24) (p := 1) (v := ?vo_w14) (w1 := (w11.setCell ⟨gb256, 0, none⟩ (.slice Ao12 t251.length co12))) ?hg ?ho ?hn ?hr ?_; (case ho => rfl); (case hg => rfl); (case hn => rfl); (case hr => first | (go_simp; done) | (go_simp; rfl)); intro w14 hw; have n0_ : zaa (Kd.S k45 45 w14 w.heap.size (fun k_ => some k_ ≠ (.slice Ao12 t251.length co12 : Value).ownBlock) (.slice Ao9 t248.length co9) t248) := ⟨(by rw [hw]; exact (by (with_reducible repeat (first | apply Kd.zbt | apply Kd.zbs | apply Kd.zbJ)); exact Kd.zbw (Kd.S_far (p := ⟨gb256, 0, none⟩) (Kd.S_types HO250.out BK256.out (by decide)) (fun _ hk => hk.2) (.slice Ao12 t251.length co12)) (fun _ hk => hk.1.2)))⟩; have n1_ : zaa (Kd.S k45 45 w14 w.heap.size (fun k_ => some k_ ≠ (.slice Ao9 t248.length co9 : Value).ownBlock) (.slice Ao12 t251.length co12) t251) := ⟨(by rw [hw]; exact (by (with_reducible repeat (first | apply Kd.zbt | apply Kd.zbs | apply Kd.zbJ)); exact Kd.zbw (Kd.S_far (p := ⟨gb256, 0, none⟩) (Kd.S_types HO253.out BK256.out (by decide)) (fun _ hk => hk.2) (.slice Ao12 t251.length co12)) (fun _ hk => hk.1.2)))⟩; have n2_ : zaa (w14.heap[gb256]? = some (.cells #[.slice Ao12 t251.length co12] 24 (0, 0))) := ⟨(by rw [hw]; exact (by (with_reducible repeat (first | refine zak ?_ _ | refine zam ?_ | refine zaj ?_ _)); refine zaF (cs := #[.slice none 0 0]) ?_ 0 _ rfl; (with_reducible repeat (first | refine zak ?_ _ | refine zam ?_ | refine zaj ?_ _)); exact BK256.out))⟩; have n3_ : zaa (Below w.heap.size w w14) := ⟨(by rw [hw]; exact (by repeat (first | (with_reducible first | exact HB.out | apply zac | apply zab | apply zad | refine zal ?_ GE256.out) | exact HB.out)))⟩; clear hw; clear HO250; clear HO253; clear BK256; clear HB; have HO250 := n0_; have HO253 := n1_; have BK256 := n2_; have HB := n3_; clear n0_ n1_ n2_ n3_) | ((with_reducible refine zaW (f := 10) rfl ?_); refine zbE (some 11) rfl rfl Try.func10 (by kernel_rfl) rfl #[.int .i64 t255] rfl (by (try simp only [List.map_toArray, List.map_cons, List.map_nil]); first | done | rfl | (simp only [List.length_drop, List.length_take]; rfl)) ?_; (with_reducible refine (zbi.calls t255 t257 _ A3.out).mono ?_); rintro e w' ⟨rfl, ⟨nd, rfl⟩⟩; refine ⟨_, rfl, ?_⟩; have hcz15_0 : w14.cell? ⟨gb256, 0, none⟩ = some (.slice Ao12 t251.length co12) := (zah BK256.out 0).trans rfl; have hfz15_0 := zaf BK256.out 0; have p258 : 0 ≤ (1 : Int) := (by omega); have q258 : 1 < (t251.length : Int) := of_decide_eq_true (by first | (with_reducible assumption) | assumption); obtain ⟨ad258, A258_1, c258_1, A258_2, c258_2, e258, hx258_0, hx258_1, hx258_2, hx258_3, hx258_4, hx258_5, hl258_1, hi258_1, hl258_2, hi258_2⟩ := zbn (Kd.za5 HO253.out).2.2 1 p258 q258; cases e258; obtain ⟨ce258, hce258, hMe258, hcc258⟩ := Kd.S_get HO253.out z45 1 p258 (by first | exact q258 | exact of_decide_eq_true (by first | (with_reducible assumption) | assumption) | (have e_ := (Kd.za5 HO253.out).1; omega)); obtain ⟨ve258_1, ve258_2, rfl, ge258_1, ge258_2⟩ := k45_openM hMe258; have hv258_1 := hcc258 1 _ rfl; rw [zbA _ _ 1 (by omega)] at hv258_1; replace hv258_1 := Option.some.inj (hv258_1.symm.trans hx258_1); rw [hv258_1] at ge258_1; have HL258_1 := zaa.mk (show Kd.R (Kd.int .u8) 5 _ _ _ _ ((zae t251 1).f1) from ge258_1); clear hv258_1 ge258_1; have hv258_2 := hcc258 2 _ rfl; rw [zbA _ _ 2 (by omega)] at hv258_2; replace hv258_2 := Option.some.inj (hv258_2.symm.trans hx258_2); rw [hv258_2] at ge258_2; have HL258_2 := zaa.mk (show Kd.R k66 66 _ _ _ _ ((zae t251 1).f2) from ge258_2); clear hv258_2 ge258_2; clear hcc258 hce258; (try simp only [show (1 : Int).toNat = 1 from rfl, Nat.reduceMul, Nat.reduceEqDiff, Go.Addr.add, ↓reduceIte] at hx258_0); (try simp only [show (1 : Int).toNat = 1 from rfl, Nat.reduceMul, Nat.reduceEqDiff, Go.Addr.add, ↓reduceIte] at hx258_1); (try simp only [show (1 : Int).toNat = 1 from rfl, Nat.reduceMul, Nat.reduceEqDiff, Go.Addr.add, ↓reduceIte] at hx258_2); (try simp only [show (1 : Int).toNat = 1 from rfl, Nat.reduceMul, Nat.reduceEqDiff, Go.Addr.add, ↓reduceIte] at hx258_3); (try simp only [show (1 : Int).toNat = 1 from rfl, Nat.reduceMul, Nat.reduceEqDiff, Go.Addr.add, ↓reduceIte] at hx258_4); (try simp only [show (1 : Int).toNat = 1 from rfl, Nat.reduceMul, Nat.reduceEqDiff, Go.Addr.add, ↓reduceIte] at hx258_5); have qi258 : (1 < t251.length) = True := eq_true (by omega); (try rw [show ((1 : Int)).toNat = 1 from rfl] at hx258_0); (try rw [show 1 * 6 = 6 from rfl] at hx258_0); (try rw [show ((1 : Int)).toNat = 1 from rfl] at hx258_1); (try rw [show 1 * 6 = 6 from rfl] at hx258_1); (try rw [show ((1 : Int)).toNat = 1 from rfl] at hx258_2); (try rw [show 1 * 6 = 6 from rfl] at hx258_2); (try rw [show ((1 : Int)).toNat = 1 from rfl] at hx258_3); (try rw [show 1 * 6 = 6 from rfl] at hx258_3); (try rw [show ((1 : Int)).toNat = 1 from rfl] at hx258_4); (try rw [show 1 * 6 = 6 from rfl] at hx258_4); (try rw [show ((1 : Int)).toNat = 1 from rfl] at hx258_5); (try rw [show 1 * 6 = 6 from rfl] at hx258_5); have HR258_1 := zaa.mk hi258_1; have HC258_1 := zaa.mk hl258_1; clear hi258_1 hl258_1; have HR258_2 := zaa.mk hi258_2; have HC258_2 := zaa.mk hl258_2; clear hi258_2 hl258_2; replace p258 := eq_true p258; replace q258 := eq_true q258))
     go_ret
     exact ⟨by first | rfl | (simp [zas, zar] <;> rfl) | (simp [*, zas, zar] <;> rfl), by repeat (first | (with_reducible first | exact HB.out | apply zac | apply zab | apply zad | refine zal ?_ GE256.out) | exact HB.out)⟩
    ·rw [if_neg c7] at H
     exact absurd H (by simp)
   ·rw [if_neg c6] at H
    have c6b0 : ((t251.length : Int) == 2) = false := beq_eq_false_iff_ne.mpr c6
    have c6b1 : ((t251.length : Int) != 2) = true := bne_iff_ne.mpr c6
    obtain rfl := Option.some.inj H
    go_enter Try.func16, Try.ntmps16
    go_wp2_with (first | ((with_reducible refine zaW (f := 39) rfl ?_); refine zbE (some 5) rfl rfl Try.func39 (by kernel_rfl) rfl #[] rfl (by (try simp only [List.map_toArray, List.map_cons, List.map_nil]); first | done | rfl | (simp only [List.length_drop, List.length_take]; rfl)) ?_; (with_reducible refine (tree_New.calls  t248 _ A1.out).mono ?_); rintro e w16 ⟨v249, rfl, ho0, hb⟩; refine ⟨_, rfl, ?_⟩; have n0_ := zaa.mk (Kd.za8 ho0 (zao (by repeat (first | (with_reducible first | exact HB.out | apply zac | apply zab | apply zad) | exact HB.out)))); have n1_ := zaa.mk (zai (by repeat (first | (with_reducible first | exact HB.out | apply zac | apply zab | apply zad) | exact HB.out)) hb); clear HB; have HO250 := n0_; have HB := n1_; clear n0_ n1_; (try clear hb); (try clear hb2); (try clear hk); (try clear hi); (try clear ho0); obtain ⟨Ao17, co17, eo17⟩ := Kd.zbc HO250.out; subst eo17) | ((with_reducible refine zaW (f := 26) rfl ?_); refine zbE (some 6) rfl rfl Try.func26 (by kernel_rfl) rfl #[.agg #[.slice Ao17 t248.length co17], .int .i64 0, .string (⟨#[97]⟩ : ByteArray), .int .i64 1, .string (⟨#[]⟩ : ByteArray), .int .i64 5] rfl (by (try simp only [List.map_toArray, List.map_cons, List.map_nil]); first | done | rfl | (simp only [List.length_drop, List.length_take]; rfl)) ?_; (with_reducible refine (zbD.calls k _ _ t248 0 (⟨#[97]⟩ : ByteArray) 1 (⟨#[]⟩ : ByteArray) 5 t251 t254 t255 _ ?side1 ?side2 A2.out).mono ?_); (case side1 => repeat (first | exact (Kd.za5 HO250.out).2.2 | (with_reducible refine Kd.C_alloc ?_ _) | (with_reducible refine Kd.C_drewN ?_ _) | (with_reducible refine Kd.C_drew ?_))); (case side2 => exact (Kd.za5 HO250.out).2.1); rintro e w18 ⟨v252, rfl, ho0, hb⟩; refine ⟨_, rfl, ?_⟩; have n0_ := zaa.mk (Kd.S_elder' (by (with_reducible repeat (first | apply Kd.zbt | apply Kd.zbs | apply Kd.zbJ)); exact HO250.out) (Kd.S_base ho0) hb); have n1_ := zaa.mk (Kd.za8 (Kd.S_new' ho0 (Kd.S_lt (by (with_reducible repeat (first | apply Kd.zbt | apply Kd.zbs | apply Kd.zbJ)); exact HO250.out))) (zao (by repeat (first | (with_reducible first | exact HB.out | apply zac | apply zab | apply zad) | exact HB.out)))); have n2_ := zaa.mk (zai (by repeat (first | (with_reducible first | exact HB.out | apply zac | apply zab | apply zad) | exact HB.out)) hb); clear HO250; clear HB; have HO250 := n0_; have HO253 := n1_; have HB := n2_; clear n0_ n1_ n2_; (try clear hb); (try clear hb2); (try clear hk); (try clear hi); (try clear ho0)) | ((with_reducible refine zaT (N := 1) rfl ?_); (try (refine zbB (by rfl) ?_; dsimp only)); refine zaN ?hg (N := 1) ?hd (cs := #[.slice none 0 0]) (t := 24) ?hr ?_; (case hd => rfl); (case hg => rfl); (case hr => first | (go_simp; done) | (go_simp; rfl)); intro gb256 hg w19 hbox hb; have n0_ := zaa.mk (Kd.zbm (by (with_reducible repeat (first | apply Kd.zbt | apply Kd.zbs | apply Kd.zbJ)); exact HO250.out) hb); have n1_ := zaa.mk (Kd.zbm (by (with_reducible repeat (first | apply Kd.zbt | apply Kd.zbs | apply Kd.zbJ)); exact HO253.out) hb); have n2_ := zaa.mk (zai (by repeat (first | (with_reducible first | exact HB.out | apply zac | apply zab | apply zad) | exact HB.out)) hb); have n3_ := zaa.mk (hbox); have n4_ := zaa.mk ((by rw [hg]; exact (zao (by repeat (first | (with_reducible first | exact HB.out | apply zac | apply zab | apply zad) | exact HB.out))) : w.heap.size ≤ gb256)); have n5_ := zaa.mk ((by rw [hg]; exact (zao (by repeat (first | (with_reducible first | exact HB.out | apply zac | apply zab | apply zad) | exact HB.out))) : w.heap.size ≤ gb256)); clear HO250; clear HO253; clear HB; have HO250 := n0_; have HO253 := n1_; have HB := n2_; have BK256 := n3_; have GW256 := n4_; have GE256 := n5_; clear n0_ n1_ n2_ n3_ n4_ n5_; clear hb hbox hg; obtain ⟨Ao20, co20, eo20⟩ := Kd.zbc HO253.out; subst eo20; have hcz21_0 : w19.cell? ⟨gb256, 0, none⟩ = some (.slice none 0 0) := (zah BK256.out 0).trans rfl; have hfz21_0 := zaf BK256.out 0) | ((with_reducible refine zaW (f := 10) rfl ?_); refine zbE (some 11) rfl rfl Try.func10 (by kernel_rfl) rfl #[.int .i64 t255] rfl (by (try simp only [List.map_toArray, List.map_cons, List.map_nil]); first | done | rfl | (simp only [List.length_drop, List.length_take]; rfl)) ?_; (with_reducible refine (zbi.calls t255 t257 _ A3.out).mono ?_); rintro e w' ⟨rfl, ⟨nd, rfl⟩⟩; refine ⟨_, rfl, ?_⟩))
    go_ret
    exact ⟨by first | rfl | (simp [zas, zar] <;> rfl) | (simp [*, zas, zar] <;> rfl), by repeat (first | (with_reducible first | exact HB.out | apply zac | apply zab | apply zad | refine zal ?_ GE256.out) | exact HB.out)⟩
  ·rw [if_neg c5] at H
   have c5b0 : (t254 == 1) = false := beq_eq_false_iff_ne.mpr c5
   have c5b1 : (t254 != 1) = true := bne_iff_ne.mpr c5
   obtain rfl := Option.some.inj H
   go_enter Try.func16, Try.ntmps16
   go_wp2_with (first | ((with_reducible refine zaW (f := 39) rfl ?_); refine zbE (some 5) rfl rfl Try.func39 (by kernel_rfl) rfl #[] rfl (by (try simp only [List.map_toArray, List.map_cons, List.map_nil]); first | done | rfl | (simp only [List.length_drop, List.length_take]; rfl)) ?_; (with_reducible refine (tree_New.calls  t248 _ A1.out).mono ?_); rintro e w22 ⟨v249, rfl, ho0, hb⟩; refine ⟨_, rfl, ?_⟩; have n0_ := zaa.mk (Kd.za8 ho0 (zao (by repeat (first | (with_reducible first | exact HB.out | apply zac | apply zab | apply zad) | exact HB.out)))); have n1_ := zaa.mk (zai (by repeat (first | (with_reducible first | exact HB.out | apply zac | apply zab | apply zad) | exact HB.out)) hb); clear HB; have HO250 := n0_; have HB := n1_; clear n0_ n1_; (try clear hb); (try clear hb2); (try clear hk); (try clear hi); (try clear ho0); obtain ⟨Ao23, co23, eo23⟩ := Kd.zbc HO250.out; subst eo23) | ((with_reducible refine zaW (f := 26) rfl ?_); refine zbE (some 6) rfl rfl Try.func26 (by kernel_rfl) rfl #[.agg #[.slice Ao23 t248.length co23], .int .i64 0, .string (⟨#[97]⟩ : ByteArray), .int .i64 1, .string (⟨#[]⟩ : ByteArray), .int .i64 5] rfl (by (try simp only [List.map_toArray, List.map_cons, List.map_nil]); first | done | rfl | (simp only [List.length_drop, List.length_take]; rfl)) ?_; (with_reducible refine (zbD.calls k _ _ t248 0 (⟨#[97]⟩ : ByteArray) 1 (⟨#[]⟩ : ByteArray) 5 t251 t254 t255 _ ?side1 ?side2 A2.out).mono ?_); (case side1 => repeat (first | exact (Kd.za5 HO250.out).2.2 | (with_reducible refine Kd.C_alloc ?_ _) | (with_reducible refine Kd.C_drewN ?_ _) | (with_reducible refine Kd.C_drew ?_))); (case side2 => exact (Kd.za5 HO250.out).2.1); rintro e w24 ⟨v252, rfl, ho0, hb⟩; refine ⟨_, rfl, ?_⟩; have n0_ := zaa.mk (Kd.S_elder' (by (with_reducible repeat (first | apply Kd.zbt | apply Kd.zbs | apply Kd.zbJ)); exact HO250.out) (Kd.S_base ho0) hb); have n1_ := zaa.mk (Kd.za8 (Kd.S_new' ho0 (Kd.S_lt (by (with_reducible repeat (first | apply Kd.zbt | apply Kd.zbs | apply Kd.zbJ)); exact HO250.out))) (zao (by repeat (first | (with_reducible first | exact HB.out | apply zac | apply zab | apply zad) | exact HB.out)))); have n2_ := zaa.mk (zai (by repeat (first | (with_reducible first | exact HB.out | apply zac | apply zab | apply zad) | exact HB.out)) hb); clear HO250; clear HB; have HO250 := n0_; have HO253 := n1_; have HB := n2_; clear n0_ n1_ n2_; (try clear hb); (try clear hb2); (try clear hk); (try clear hi); (try clear ho0)) | ((with_reducible refine zaT (N := 1) rfl ?_); (try (refine zbB (by rfl) ?_; dsimp only)); refine zaN ?hg (N := 1) ?hd (cs := #[.slice none 0 0]) (t := 24) ?hr ?_; (case hd => rfl); (case hg => rfl); (case hr => first | (go_simp; done) | (go_simp; rfl)); intro gb256 hg w25 hbox hb; have n0_ := zaa.mk (Kd.zbm (by (with_reducible repeat (first | apply Kd.zbt | apply Kd.zbs | apply Kd.zbJ)); exact HO250.out) hb); have n1_ := zaa.mk (Kd.zbm (by (with_reducible repeat (first | apply Kd.zbt | apply Kd.zbs | apply Kd.zbJ)); exact HO253.out) hb); have n2_ := zaa.mk (zai (by repeat (first | (with_reducible first | exact HB.out | apply zac | apply zab | apply zad) | exact HB.out)) hb); have n3_ := zaa.mk (hbox); have n4_ := zaa.mk ((by rw [hg]; exact (zao (by repeat (first | (with_reducible first | exact HB.out | apply zac | apply zab | apply zad) | exact HB.out))) : w.heap.size ≤ gb256)); have n5_ := zaa.mk ((by rw [hg]; exact (zao (by repeat (first | (with_reducible first | exact HB.out | apply zac | apply zab | apply zad) | exact HB.out))) : w.heap.size ≤ gb256)); clear HO250; clear HO253; clear HB; have HO250 := n0_; have HO253 := n1_; have HB := n2_; have BK256 := n3_; have GW256 := n4_; have GE256 := n5_; clear n0_ n1_ n2_ n3_ n4_ n5_; clear hb hbox hg; obtain ⟨Ao26, co26, eo26⟩ := Kd.zbc HO253.out; subst eo26; have hcz27_0 : w25.cell? ⟨gb256, 0, none⟩ = some (.slice none 0 0) := (zah BK256.out 0).trans rfl; have hfz27_0 := zaf BK256.out 0) | ((with_reducible refine zaW (f := 10) rfl ?_); refine zbE (some 11) rfl rfl Try.func10 (by kernel_rfl) rfl #[.int .i64 t255] rfl (by (try simp only [List.map_toArray, List.map_cons, List.map_nil]); first | done | rfl | (simp only [List.length_drop, List.length_take]; rfl)) ?_; (with_reducible refine (zbi.calls t255 t257 _ A3.out).mono ?_); rintro e w' ⟨rfl, ⟨nd, rfl⟩⟩; refine ⟨_, rfl, ?_⟩))
   go_ret
   exact ⟨by first | rfl | (simp [zas, zar] <;> rfl) | (simp [*, zas, zar] <;> rfl), by repeat (first | (with_reducible first | exact HB.out | apply zac | apply zab | apply zad | refine zal ?_ GE256.out) | exact HB.out)⟩
 ·rw [if_neg c4] at H
  have c4b0 : (t257 == 0) = false := beq_eq_false_iff_ne.mpr c4
  have c4b1 : (t257 != 0) = true := bne_iff_ne.mpr c4
  obtain rfl := Option.some.inj H
  go_enter Try.func16, Try.ntmps16
  go_wp2_with (first | ((with_reducible refine zaW (f := 39) rfl ?_); refine zbE (some 5) rfl rfl Try.func39 (by kernel_rfl) rfl #[] rfl (by (try simp only [List.map_toArray, List.map_cons, List.map_nil]); first | done | rfl | (simp only [List.length_drop, List.length_take]; rfl)) ?_; (with_reducible refine (tree_New.calls  t248 _ A1.out).mono ?_); rintro e w28 ⟨v249, rfl, ho0, hb⟩; refine ⟨_, rfl, ?_⟩; have n0_ := zaa.mk (Kd.za8 ho0 (zao (by repeat (first | (with_reducible first | exact HB.out | apply zac | apply zab | apply zad) | exact HB.out)))); have n1_ := zaa.mk (zai (by repeat (first | (with_reducible first | exact HB.out | apply zac | apply zab | apply zad) | exact HB.out)) hb); clear HB; have HO250 := n0_; have HB := n1_; clear n0_ n1_; (try clear hb); (try clear hb2); (try clear hk); (try clear hi); (try clear ho0); obtain ⟨Ao29, co29, eo29⟩ := Kd.zbc HO250.out; subst eo29) | ((with_reducible refine zaW (f := 26) rfl ?_); refine zbE (some 6) rfl rfl Try.func26 (by kernel_rfl) rfl #[.agg #[.slice Ao29 t248.length co29], .int .i64 0, .string (⟨#[97]⟩ : ByteArray), .int .i64 1, .string (⟨#[]⟩ : ByteArray), .int .i64 5] rfl (by (try simp only [List.map_toArray, List.map_cons, List.map_nil]); first | done | rfl | (simp only [List.length_drop, List.length_take]; rfl)) ?_; (with_reducible refine (zbD.calls k _ _ t248 0 (⟨#[97]⟩ : ByteArray) 1 (⟨#[]⟩ : ByteArray) 5 t251 t254 t255 _ ?side1 ?side2 A2.out).mono ?_); (case side1 => repeat (first | exact (Kd.za5 HO250.out).2.2 | (with_reducible refine Kd.C_alloc ?_ _) | (with_reducible refine Kd.C_drewN ?_ _) | (with_reducible refine Kd.C_drew ?_))); (case side2 => exact (Kd.za5 HO250.out).2.1); rintro e w30 ⟨v252, rfl, ho0, hb⟩; refine ⟨_, rfl, ?_⟩; have n0_ := zaa.mk (Kd.S_elder' (by (with_reducible repeat (first | apply Kd.zbt | apply Kd.zbs | apply Kd.zbJ)); exact HO250.out) (Kd.S_base ho0) hb); have n1_ := zaa.mk (Kd.za8 (Kd.S_new' ho0 (Kd.S_lt (by (with_reducible repeat (first | apply Kd.zbt | apply Kd.zbs | apply Kd.zbJ)); exact HO250.out))) (zao (by repeat (first | (with_reducible first | exact HB.out | apply zac | apply zab | apply zad) | exact HB.out)))); have n2_ := zaa.mk (zai (by repeat (first | (with_reducible first | exact HB.out | apply zac | apply zab | apply zad) | exact HB.out)) hb); clear HO250; clear HB; have HO250 := n0_; have HO253 := n1_; have HB := n2_; clear n0_ n1_ n2_; (try clear hb); (try clear hb2); (try clear hk); (try clear hi); (try clear ho0)) | ((with_reducible refine zaT (N := 1) rfl ?_); (try (refine zbB (by rfl) ?_; dsimp only)); refine zaN ?hg (N := 1) ?hd (cs := #[.slice none 0 0]) (t := 24) ?hr ?_; (case hd => rfl); (case hg => rfl); (case hr => first | (go_simp; done) | (go_simp; rfl)); intro gb256 hg w31 hbox hb; have n0_ := zaa.mk (Kd.zbm (by (with_reducible repeat (first | apply Kd.zbt | apply Kd.zbs | apply Kd.zbJ)); exact HO250.out) hb); have n1_ := zaa.mk (Kd.zbm (by (with_reducible repeat (first | apply Kd.zbt | apply Kd.zbs | apply Kd.zbJ)); exact HO253.out) hb); have n2_ := zaa.mk (zai (by repeat (first | (with_reducible first | exact HB.out | apply zac | apply zab | apply zad) | exact HB.out)) hb); have n3_ := zaa.mk (hbox); have n4_ := zaa.mk ((by rw [hg]; exact (zao (by repeat (first | (with_reducible first | exact HB.out | apply zac | apply zab | apply zad) | exact HB.out))) : w.heap.size ≤ gb256)); have n5_ := zaa.mk ((by rw [hg]; exact (zao (by repeat (first | (with_reducible first | exact HB.out | apply zac | apply zab | apply zad) | exact HB.out))) : w.heap.size ≤ gb256)); clear HO250; clear HO253; clear HB; have HO250 := n0_; have HO253 := n1_; have HB := n2_; have BK256 := n3_; have GW256 := n4_; have GE256 := n5_; clear n0_ n1_ n2_ n3_ n4_ n5_; clear hb hbox hg; obtain ⟨Ao32, co32, eo32⟩ := Kd.zbc HO253.out; subst eo32; have hcz33_0 : w31.cell? ⟨gb256, 0, none⟩ = some (.slice none 0 0) := (zah BK256.out 0).trans rfl; have hfz33_0 := zaf BK256.out 0) | ((with_reducible refine zaW (f := 10) rfl ?_); refine zbE (some 11) rfl rfl Try.func10 (by kernel_rfl) rfl #[.int .i64 t255] rfl (by (try simp only [List.map_toArray, List.map_cons, List.map_nil]); first | done | rfl | (simp only [List.length_drop, List.length_take]; rfl)) ?_; (with_reducible refine (zbi.calls t255 t257 _ A3.out).mono ?_); rintro e w' ⟨rfl, ⟨nd, rfl⟩⟩; refine ⟨_, rfl, ?_⟩))
  go_ret
  exact ⟨by first | rfl | (simp [zas, zar] <;> rfl) | (simp [*, zas, zar] <;> rfl), by repeat (first | (with_reducible first | exact HB.out | apply zac | apply zab | apply zad | refine zal ?_ GE256.out) | exact HB.out)⟩
theorem fits_of {l : List S45} (h : ok24 l) : l.length < 1599289640401 ∧ Fits l := by
 obtain ⟨h1, h2, h3⟩ := h
 refine ⟨by omega, fun x hx => ?_⟩
 obtain ⟨_, ⟨_, a1, _⟩, ⟨_, a2, a3⟩, a4, _⟩ := h3 x hx
 exact ⟨⟨by omega, by omega⟩, fun z hz => by have := (a3 z hz).1; omega, by omega⟩
theorem Fits.n {l : List S45} (h : Fits l) : ∀ x ∈ l, FitsN x := fun x hx => (h x hx).1
theorem large_l0 (l : List S45) (hm : l.length < 9223372036854775807) : ∀ (d i : Nat) (n : Int), i + d = l.length → ∃ b, Ev (fun k => zaP.l0 k n (i : Int) l) b
 | 0, i, n, h => ⟨_, Ev.step (f := fun _ => some (decide (n > 60000))) (fun k => by rw [zaP.l0, if_neg (by omega)]) (Ev.now _)⟩
 | d + 1, i, n, h => by
  obtain ⟨b, hb⟩ := large_l0 l hm d (i + 1) (wrap64 ((wrap64 ((wrap64 (n + (wrap64 (30 * (((zae l (i : Int)).f2).length : Int))))) + (((zae l (i : Int)).f1).length : Int))) + (((zae l (i : Int)).f3).size : Int))) (by omega)
  refine ⟨b, Ev.step (fun k => ?_) hb⟩
  rw [zaP.l0, if_pos (by omega), if_pos (by omega), up64 (by omega)]
theorem large_ev (l : List S45) (hm : l.length < 9223372036854775807) : ∃ b, Ev (fun k => zaP.f k l) b ∧ (b = false → l.length ≤ 100) := by
 by_cases h : (l.length : Int) > 100
 ·exact ⟨true, Ev.congr (fun k => by unfold zaP.f; rw [if_pos h]) (Ev.now true), fun h => by (cases h)⟩
 ·obtain ⟨b, hb⟩ := large_l0 l hm l.length 0 0 (by omega)
  exact ⟨b, Ev.congr (fun k => by unfold zaP.f; rw [if_neg h]; rfl) hb, fun _ => by omega⟩
theorem heavy_l0 (l : List S45) (hm : l.length < 9223372036854775807) (q : List S38) (hq : q.length < 9223372036854775807) : ∀ (d i : Nat) (n : Int), i + d = q.length → ∃ b, Ev (fun k => zaX.l0 k n (i : Int) l q) b ∧ (b = false → l.length ≤ 100) := by
 obtain ⟨b, hb, hb2⟩ := large_ev l hm
 have fin : ∀ n : Int, ∃ b', Ev (fun k => if n > 40000 then some true else (zaP.f k l).bind fun t => some t) b' ∧ (b' = false → l.length ≤ 100) := fun n => by
  by_cases h : n > 40000
  ·exact ⟨true, Ev.congr (fun k => if_pos h) (Ev.now true), fun h => by (cases h)⟩
  ·exact ⟨b, Ev.congr (fun k => if_neg h) (Ev.bind (f := fun _ t => some t) hb (Ev.now b)), hb2⟩
 intro d
 induction d with
 | zero =>
  intro i n h
  obtain ⟨b', h1, h2⟩ := fin n
  exact ⟨b', Ev.step (fun k => by rw [zaX.l0, if_neg (by omega)]) h1, h2⟩
 | succ d ih =>
  intro i n h
  by_cases h14 : (i : Int) < 14
  ·obtain ⟨b', h1, h2⟩ := ih (i + 1) (wrap64 ((wrap64 ((wrap64 (n + (((zax q (i : Int)).f10).length : Int))) + (((zax q (i : Int)).f4).size : Int))) + (((zax q (i : Int)).f5).size : Int))) (by omega)
   exact ⟨b', Ev.step (fun k => by rw [zaX.l0, if_pos (by omega), if_pos h14, if_pos (by omega), up64 (by omega)]) h1, h2⟩
  ·obtain ⟨b', h1, h2⟩ := fin n
   exact ⟨b', Ev.step (fun k => by rw [zaX.l0, if_pos (by omega), if_neg h14]) h1, h2⟩
theorem heavy_ev (l : List S45) (hm : l.length < 9223372036854775807) (q : List S38) (hq : q.length < 9223372036854775807) : ∃ b, Ev (fun k => zaX.f k l q) b ∧ (b = false → l.length ≤ 100) := heavy_l0 l hm q hq q.length 0 0 (by omega)
theorem wakes_70 : za4.f 70 = some true := by kernel_rfl
theorem wakes_ev : Ev (fun k => za4.f k) true := Ev.of (fun k => za4.mono k) wakes_70
def tree_file.f (l0_0 : List (S45)) (a1 : Int) : Option (Int) := if 0 ≤ a1 then (if a1 < (l0_0.length : Int) then (if ((zae l0_0 a1).f0) = 2 then (some 31) else (if ((zae l0_0 a1).f0) = 3 then (some 28) else (some 0))) else (none)) else (none)
set_option maxHeartbeats 8000000 in
set_option maxRecDepth 100000 in
theorem tree_file.calls (A0_0 : Option Addr) (c0_0 : Nat) (l0_0 : List (S45)) (a1 : Int) (r : Int) (w : World) (hr0_0 : Kd.C k45 w A0_0 l0_0.length l0_0) (hc0_0 : l0_0.length ≤ c0_0) (h : tree_file.f l0_0 a1 = some r) :
  Calls Try.prog 46 #[.agg #[.slice A0_0 l0_0.length c0_0], .int .i64 a1] w fun e w' => e = .returned (.int .i64 r) ∧ Below w.heap.size w w' := by
 have hu24 := Try.underlying24
 have HR0_0 := zaa.mk hr0_0
 have HC0_0 := zaa.mk hc0_0
 clear hr0_0 hc0_0
 have HB := zaa.mk (Below.refl w.heap.size w)
 have H : (if 0 ≤ a1 then (if a1 < (l0_0.length : Int) then (if ((zae l0_0 a1).f0) = 2 then (some 31) else (if ((zae l0_0 a1).f0) = 3 then (some 28) else (some 0))) else (none)) else (none)) = some r := h
 clear h
 by_cases c3 : 0 ≤ a1
 focus
  rw [if_pos c3] at H
  have c3b0 : decide (0 ≤ a1) = true := decide_eq_true c3
  clear c3
  by_cases c4 : a1 < (l0_0.length : Int)
  focus
   rw [if_pos c4] at H
   have c4b0 : decide (a1 < (l0_0.length : Int)) = true := decide_eq_true c4
   clear c4
   by_cases c5 : ((zae l0_0 a1).f0) = 2
   focus
    rw [if_pos c5] at H
    have c5b0 : (((zae l0_0 a1).f0) == 2) = true := beq_iff_eq.mpr c5
    have c5b1 : (((zae l0_0 a1).f0) != 2) = false := bne_eq_false_iff_eq.mpr c5
    clear c5
    obtain rfl := Option.some.inj H
   rotate_left 1
   focus
    rw [if_neg c5] at H
    have c5b0 : (((zae l0_0 a1).f0) == 2) = false := beq_eq_false_iff_ne.mpr c5
    have c5b1 : (((zae l0_0 a1).f0) != 2) = true := bne_iff_ne.mpr c5
    by_cases c8 : ((zae l0_0 a1).f0) = 3
    focus
     rw [if_pos c8] at H
     have c8b0 : (((zae l0_0 a1).f0) == 3) = true := beq_iff_eq.mpr c8
     have c8b1 : (((zae l0_0 a1).f0) != 3) = false := bne_eq_false_iff_eq.mpr c8
     clear c8
     obtain rfl := Option.some.inj H
    rotate_left 1
    focus
     rw [if_neg c8] at H
     have c8b0 : (((zae l0_0 a1).f0) == 3) = false := beq_eq_false_iff_ne.mpr c8
     have c8b1 : (((zae l0_0 a1).f0) != 3) = true := bne_iff_ne.mpr c8
     obtain rfl := Option.some.inj H
  rotate_left 3
  ·rw [if_neg c4] at H
   exact absurd H (by simp)
 rotate_left 3
 ·rw [if_neg c3] at H
  exact absurd H (by simp)
 all_goals
  go_enter Try.func46, Try.ntmps46
  go_wp2_with (first | ((with_reducible refine zaT (N := 2) rfl ?_); refine zaN ?hg (N := 2) ?hd (cs := #[.slice A0_0 l0_0.length c0_0]) (t := 24) ?hr ?_; (case hd => rfl); (case hg => rfl); (case hr => first | (go_simp; done) | (go_simp; rfl)); intro gb303 hg wq1 hbox hb; have n0_ := zaa.mk (zai (by repeat (first | (with_reducible first | exact HB.out | apply zac | apply zab | apply zad) | exact HB.out)) hb); have n1_ := zaa.mk (hbox); have n2_ := zaa.mk ((by rw [hg]; exact (zao (by repeat (first | (with_reducible first | exact HB.out | apply zac | apply zab | apply zad) | exact HB.out))) : w.heap.size ≤ gb303)); have n3_ := zaa.mk ((by rw [hg]; exact (zao (by repeat (first | (with_reducible first | exact HB.out | apply zac | apply zab | apply zad) | exact HB.out))) : w.heap.size ≤ gb303)); clear HB; have HB := n0_; have BK303 := n1_; have GW303 := n2_; have GE303 := n3_; clear n0_ n1_ n2_ n3_; clear hb hbox hg; have hczq2_0 : wq1.cell? ⟨gb303, 0, none⟩ = some (.slice A0_0 l0_0.length c0_0) := (zah BK303.out 0).trans rfl; have hfzq2_0 := zaf BK303.out 0; have p304 : 0 ≤ (a1 : Int) := of_decide_eq_true (by first | (with_reducible assumption) | assumption); have q304 : a1 < (l0_0.length : Int) := of_decide_eq_true (by first | (with_reducible assumption) | assumption); obtain ⟨ad304, A304_1, c304_1, A304_2, c304_2, e304, hx304_0, hx304_1, hx304_2, hx304_3, hx304_4, hx304_5, hl304_1, hi304_1, hl304_2, hi304_2⟩ := zbn HR0_0.out a1 p304 q304; cases e304; replace hx304_0 := (HB.out.cell (World.block_lt_of_cell? w _ hx304_0)).trans hx304_0; replace hx304_1 := (HB.out.cell (World.block_lt_of_cell? w _ hx304_1)).trans hx304_1; replace hx304_2 := (HB.out.cell (World.block_lt_of_cell? w _ hx304_2)).trans hx304_2; replace hx304_3 := (HB.out.cell (World.block_lt_of_cell? w _ hx304_3)).trans hx304_3; replace hx304_4 := (HB.out.cell (World.block_lt_of_cell? w _ hx304_4)).trans hx304_4; replace hx304_5 := (HB.out.cell (World.block_lt_of_cell? w _ hx304_5)).trans hx304_5; have HR304_1 := zaa.mk hi304_1; have HC304_1 := zaa.mk hl304_1; clear hi304_1 hl304_1; have HR304_2 := zaa.mk hi304_2; have HC304_2 := zaa.mk hl304_2; clear hi304_2 hl304_2; replace p304 := eq_true p304; replace q304 := eq_true q304))
  go_ret
  exact ⟨by first | rfl | (simp [zas, zar] <;> rfl) | (simp [*, zas, zar] <;> rfl), by repeat (first | (with_reducible first | exact HB.out | apply zac | apply zab | apply zad | refine zal ?_ GE303.out) | exact HB.out)⟩
def linkP (k : Nat) (l : List S45) (ns : List Int) (now : Int) : Option Bool :=
 (zbb.f k l ns).bind fun m => if m = true then (za7.f now).bind fun tm => some tm else some false
def linkE (k : Nat) (l : List S45) (node dir : Int) (s : ByteArray) : Option Int :=
 (zbo.f l node).bind fun d => if d = true then some 63 else (zbM.f k l dir s 0).bind fun e => some e
theorem addN_len (l : List S45) (dir : Int) (s : ByteArray) (node now : Int) : (addN l dir s node now).length = l.length := List.length_set
def linksBy (u : List S45) (n d : Int) : List S45 := u.set n.toNat { zae u n with f4 := wrap64 ((zae u n).f4 + d) }
def linkD (u : List S45) (node dir : Int) (s : ByteArray) (now : Int) : Option (List S45) :=
 if 0 ≤ node ∧ node < (u.length : Int) ∧ 0 ≤ dir ∧ dir < (u.length : Int) ∧ (zae u dir).f2.length ≤ 1000000 ∧ bs (zae u dir).f2 s ≤ (zae u dir).f2.length then some (linksBy (addN u dir s node now) node 1) else none
def tree_Link.f (k : Nat) (l0_0 : List S45) (a1 : Int) (a2 : Int) (a3 : ByteArray) (a4 : Int) : Option (List S45 × Int) :=
 (linkP k l0_0 [a1, a2] a4).bind fun p => if p = true then (linkE k l0_0 a1 a2 a3).bind fun e => (if e = 0 then (zaJ.f k l0_0).bind fun u => (linkD u a1 a2 a3 a4).bind fun r => some (r, 0) else zaD.f k l0_0 e) else zaD.f k l0_0 100
set_option maxHeartbeats 8000000 in
set_option maxRecDepth 100000 in
theorem tree_Link.calls (k : Nat) (A0_0 : Option Addr) (c0_0 : Nat) (l0_0 : List S45) (a1 : Int) (a2 : Int) (a3 : ByteArray) (a4 : Int) (r1 : List S45) (r2 : Int) (w : World) (hr0_0 : Kd.C k45 w A0_0 l0_0.length l0_0) (hc0_0 : l0_0.length ≤ c0_0) (h : tree_Link.f k l0_0 a1 a2 a3 a4 = some (r1, r2)) :
  Calls Try.prog 29 #[.agg #[.slice A0_0 l0_0.length c0_0], .int .i64 a1, .int .i64 a2, .string a3, .int .i64 a4] w fun e w' => ∃ v0_ : Value, e = .returned (.tuple #[.agg #[v0_], .int .i64 r2]) ∧ Kd.S k45 45 w' w.heap.size (fun _ => True) v0_ r1 ∧ Below w.heap.size w w' := by
 obtain ⟨p, hP, h⟩ := Option.bind_eq_some_iff.mp h
 have HR := zaa.mk hr0_0
 have HC := zaa.mk hc0_0
 have HP := zaa.mk hP
 have HH := zaa.mk h
 have hut := Try.underlying24
 have hun := Try.underlying45
 have hsi := Try.underlying88
 have HW := zaa.mk (zb5 w A0_0 l0_0.length c0_0)
 have HW0 := zaa.mk (Below.refl (zbp w A0_0 l0_0.length c0_0).heap.size (zbp w A0_0 l0_0.length c0_0))
 clear hr0_0 hc0_0 hP h
 go_enter Try.func29, Try.ntmps29
 go_upto_region 1 with (fail)
 go_cut [23] (fun v23 wc => v23 = .bool (!p) ∧ zaa (Below (zbp w A0_0 l0_0.length c0_0).heap.size (zbp w A0_0 l0_0.length c0_0) wc))
 case first =>
  have hmm := HP.out
  clear HH HP
  unfold linkP at hmm
  obtain ⟨m, hm, hmm⟩ := Option.bind_eq_some_iff.mp hmm
  have HM := zaa.mk hm
  have HD := zaa.mk (Kd.zbL (R_of_blk (xs := [a1, a2]) (k := .i64) (base := 0) (zbC (zbp w A0_0 l0_0.length c0_0) (.cells #[.int .i64 a1, .int .i64 a2] 3)) (Nat.zero_le _) (by simp))).2.2
  have hWs : (zbp w A0_0 l0_0.length c0_0).heap.size = w.heap.size + 1 + 1 := by show ((w.alloc _).alloc _).heap.size = _; rw [World.size_alloc, World.size_alloc]
  rw [hWs] at HD
  clear hm hWs
  cases m with
  | false =>
   obtain rfl := Option.some.inj (show some false = some p from hmm)
   clear hmm
   go_wp2_with (first | (go_at_call 40; refine (zbb.calls k A0_0 c0_0 l0_0 (some ⟨w.heap.size + 1 + 1, 0, none⟩) 2 [a1, a2] false _ (Kd.C_below HR.out (by repeat (first | exact HW.out | exact Below.refl _ _ | apply zac | apply zab | apply zad | apply zaH))) HC.out HD.out (by simp) HM.out).mono ?_; rintro e' w1 ⟨rfl, hb⟩; have HB1 := zaa.mk (zai (zac HW0.out _) hb); clear hb))
   go_meet
   case rel => exact ⟨rfl, HB1⟩
  | true =>
   obtain ⟨tm, ht, hmm⟩ := Option.bind_eq_some_iff.mp (show ((za7.f a4).bind fun tm => some tm) = some p from hmm)
   obtain rfl := Option.some.inj hmm
   have HT := zaa.mk ht
   clear ht hmm
   go_wp2_with (first | (go_at_call 40; refine (zbb.calls k A0_0 c0_0 l0_0 (some ⟨w.heap.size + 1 + 1, 0, none⟩) 2 [a1, a2] true _ (Kd.C_below HR.out (by repeat (first | exact HW.out | exact Below.refl _ _ | apply zac | apply zab | apply zad | apply zaH))) HC.out HD.out (by simp) HM.out).mono ?_; rintro e' w1 ⟨rfl, hb⟩; have HB1 := zaa.mk (zai (zac HW0.out _) hb); clear hb) | (go_at_call 45; refine (za7.calls a4 _ _ HT.out).mono ?_; rintro e' w2 ⟨rfl, ⟨nd, rfl⟩⟩))
   go_meet
   case rel => exact ⟨rfl, ⟨by repeat (first | exact HB1.out | exact Below.refl _ _ | apply zac | apply zab | apply zad | apply zaH)⟩⟩
 case rest =>
  clear HP HW0
  obtain ⟨rfl, HB⟩ := hcut
  have hct := zaZ HB.out
  cases p with
  | false =>
   have hbad : zaD.f k l0_0 100 = some (r1, r2) := HH.out
   have HBAD := zaa.mk hbad
   clear hbad
   go_wp2_with (first | (go_at_call 41; refine (zaD.calls k A0_0 c0_0 l0_0 100 r1 r2 _ (Kd.C_below HR.out (zai HW.out HB.out)) HC.out HBAD.out).mono ?_; rintro e' w1 ⟨v, rfl, hS, hb⟩; obtain ⟨vA, vc, rfl⟩ := Kd.zbc hS; have HS1 := zaa.mk hS; have HB1 := zaa.mk (zai HB.out hb); have HK := zaa.mk (zbe HB1.out); have hct1 := (zah HK.out.2 0).trans rfl; have hf1 := zaf HK.out.2 0; clear hS hb))
   refine bodyPost_ret (za6 rfl _ _ (w.heap.size + 1) 24 #[.slice vA r1.length vc] (0, 0) _ rfl (zaF HK.out.2 0 _ rfl) Try.underlying24 rfl (by kernel_rfl)) rfl ?_
   exact ⟨_, rfl, Kd.zbK (Kd.za8 HS1.out (zai HW.out HB.out).size) HK.out.2 (by decide) 0 _, (zai HW.out HB1.out).setCell (p := ⟨w.heap.size + 1, 0, none⟩) (by show _ ≤ _ + 1; omega) _⟩
  | true =>
   obtain ⟨e, hE, hq⟩ := Option.bind_eq_some_iff.mp (show ((linkE k l0_0 a1 a2 a3).bind fun e => (if e = 0 then (zaJ.f k l0_0).bind fun u => (linkD u a1 a2 a3 a4).bind fun r => some (r, 0) else zaD.f k l0_0 e)) = some (r1, r2) from HH.out)
   have HQ := zaa.mk hq
   obtain ⟨d, hd, hE⟩ := Option.bind_eq_some_iff.mp hE
   have HE := zaa.mk hE
   have HD := zaa.mk hd
   clear HH hq hE hd
   go_upto_if 31 with (first | (go_at_call 56; refine (zbo.calls A0_0 c0_0 l0_0 a1 d _ (Kd.C_below HR.out (zai HW.out HB.out)) HC.out HD.out).mono ?_; rintro e' w1 ⟨rfl, hb⟩; have HB1 := zaa.mk (zai HB.out hb); have hct1 := zaZ HB1.out; clear hb))
   clear HB hct
   go_cut [12] (fun v12 wc => v12 = .int .i64 e ∧ zaa (Below (zbp w A0_0 l0_0.length c0_0).heap.size (zbp w A0_0 l0_0.length c0_0) wc))
   case first =>
    clear HQ
    cases d with
    | true =>
     obtain rfl := Option.some.inj (show some 63 = some e from HE.out)
     go_wp2
     go_meet
     case rel => exact ⟨rfl, HB1⟩
    | false =>
     obtain ⟨e1, he1, he2⟩ := Option.bind_eq_some_iff.mp (show ((zbM.f k l0_0 a2 a3 0).bind fun e => some e) = some e from HE.out)
     obtain rfl := Option.some.inj he2
     have HE1 := zaa.mk he1
     clear he1 he2 HE
     go_wp2_with (first | (go_at_call 50; refine (zbM.calls k A0_0 c0_0 l0_0 a2 a3 0 _ _ (Kd.C_below HR.out (zai HW.out HB1.out)) HC.out HE1.out).mono ?_; rintro e' w2 ⟨rfl, hb⟩; have HB2 := zaa.mk (zai HB1.out hb); clear hb))
     go_meet
     case rel => exact ⟨rfl, HB2⟩
   case rest =>
    clear HE HD hct1 HB1
    obtain ⟨rfl, HB⟩ := hcut
    have hct := zaZ HB.out
    by_cases z1 : e = 0
    ·have Z1 : (e != 0) = false := by simpa using z1
     obtain rfl := z1
     have hq := HQ.out
     rw [if_pos rfl] at hq
     obtain ⟨u, hu, hq⟩ := Option.bind_eq_some_iff.mp hq
     obtain ⟨r, hr, hq⟩ := Option.bind_eq_some_iff.mp hq
     injection (Option.some.inj hq) with hq1 hq2
     subst hq1; subst hq2
     unfold linkD at hr
     split at hr
     ·rename_i hg1
      have HADD := zaa.mk (Option.some.inj hr)
      have HU := zaa.mk hu
      have HG1 := zaa.mk hg1
      have HSZ : zaa (w.heap.size + 2 ≤ wc.heap.size) := ⟨by have := HB.out.size; have h2 : (zbp w A0_0 l0_0.length c0_0).heap.size = w.heap.size + 1 + 1 := (by show ((w.alloc _).alloc _).heap.size = _; rw [World.size_alloc, World.size_alloc]); omega⟩
      have p0 := eq_true hg1.1
      have p1 := eq_true hg1.2.1
      have hpos : 0 < u.length := by omega
      clear HQ hq hu hr hg1
      go_wp2_with (first | (go_at_call 42; refine (zaJ.calls k A0_0 c0_0 l0_0 u _ (Kd.C_below HR.out (zai HW.out HB.out)) HC.out HU.out).mono ?_; rintro e' w1 ⟨v, rfl, hS, hb⟩; obtain ⟨g, vc, rfl, hgN, hgl, _⟩ := Kd.S_form hS hpos; have HB1 := zai HB.out hb; have hK := zbe HB1; have hX := boxed hK.1 hK.2 (zai HW.out HB1) (Kd.za8 (Kd.zbw (ok' := (fun k => k ≠ w.heap.size ∧ k ≠ w.heap.size + 1)) (Kd.S_bound hS) (fun k hk => ⟨by have := HSZ.out; have := hk.2.1; omega, by have := HSZ.out; have := hk.2.1; omega⟩)) (zai HW.out HB.out).size); have hct1 := zaZ HB1; have hf1 := zaf hK.1 0; have HK6 := zaa.mk hX.1; have HK12 := zaa.mk hX.2.1; have HS1 := zaa.mk hX.2.2.1; have HB2 := zaa.mk hX.2.2.2; have hct2 := (zah HK6.out 0).trans rfl; have hf2 := zaf HK6.out 0; clear hS hb hX HB1 hK) | (go_at_call 52; have hadd := tree_add.calls _ w.heap.size g vc (fun k => k ≠ w.heap.size ∧ k ≠ w.heap.size + 1) u a2 a3 a1 a4 HS1.out HG1.out.2.2.1 HG1.out.2.2.2.1 (fun q hq => ⟨by have := zaV HK12.out; omega, by have := zaV HK12.out; omega⟩) HB2.out.size (by have := HG1.out.2.2.2.2.1; omega) HG1.out.2.2.2.2.2; refine hadd.mono ?_; rintro e' w5 ⟨rfl, hS5, hb5, ho5⟩; have hlen := addN_len u a2 a3 a1 a4; rw [← hlen] at hS5; obtain ⟨hl4, hfl, hokg, hbg, _, hnew⟩ := links_anew hS5 a1 HG1.out.1 (by rw [hlen]; exact HG1.out.2.1); rw [hlen] at hnew; have HNEW := zaa.mk hnew; have HK6c := zaa.mk ((ho5 w.heap.size (zaV HK6.out) (by simp)).trans HK6.out); have HK12c := zaa.mk ((ho5 (w.heap.size + 1) (zaV HK12.out) (by simp)).trans HK12.out); have HB5 := zaa.mk (HB2.out.trans hb5); have hct5 := (zah HK6c.out 0).trans rfl; have HGB := zaa.mk hbg; have HK6d := zaa.mk (fun u' : Value => zaC HK6c.out (p := ⟨g, a1.toNat * 6 + 4, none⟩) (fun e => hokg.1 e.symm) u'); have HK12d := zaa.mk (fun u' : Value => zaC HK12c.out (p := ⟨g, a1.toNat * 6 + 4, none⟩) (fun e => hokg.2 e.symm) u'); have hct6 := fun u' => (zah (HK6d.out u') 0).trans rfl; have hct12 := fun u' => (zah (HK12d.out u') 0).trans rfl; have hf12 := fun u' => zaf (HK12d.out u') 0; clear hadd hS5 hb5 ho5 hnew hlen hokg hbg))
      refine bodyPost_ret (za6 rfl _ _ (w.heap.size + 1) 24 #[.slice (some ⟨g, 0, none⟩) u.length vc] (0, 0) _ rfl (zaF (HK12d.out _) 0 _ rfl) Try.underlying24 rfl (by kernel_rfl)) rfl ?_
      refine ⟨_, rfl, ?_, (HB5.out.setCell HGB.out _).setCell (p := ⟨w.heap.size + 1, 0, none⟩) (by show _ ≤ _ + 1; omega) _⟩
      rw [← HADD.out]
      exact Kd.zbw (Kd.zbK (HNEW.out _) (HK12d.out _) (by decide) 0 _) (fun _ _ => trivial)
     ·cases hr
    ·have Z1 : (e != 0) = true := by simpa using z1
     have hbad := HQ.out
     rw [if_neg z1] at hbad
     have HBAD := zaa.mk hbad
     clear hbad
     clear z1
     go_wp2_with (first | (go_at_call 41; refine (zaD.calls k A0_0 c0_0 l0_0 e r1 r2 _ (Kd.C_below HR.out (zai HW.out HB.out)) HC.out HBAD.out).mono ?_; rintro e' w1 ⟨v, rfl, hS, hb⟩; obtain ⟨vA, vc, rfl⟩ := Kd.zbc hS; have HS1 := zaa.mk hS; have HB1 := zaa.mk (zai HB.out hb); have HK := zaa.mk (zbe HB1.out); have hct1 := (zah HK.out.2 0).trans rfl; have hf1 := zaf HK.out.2 0; clear hS hb))
     refine bodyPost_ret (za6 rfl _ _ (w.heap.size + 1) 24 #[.slice vA r1.length vc] (0, 0) _ rfl (zaF HK.out.2 0 _ rfl) Try.underlying24 rfl (by kernel_rfl)) rfl ?_
     exact ⟨_, rfl, Kd.zbK (Kd.za8 HS1.out (zai HW.out HB.out).size) HK.out.2 (by decide) 0 _, (zai HW.out HB1.out).setCell (p := ⟨w.heap.size + 1, 0, none⟩) (by show _ ≤ _ + 1; omega) _⟩
def sizedL (l : List Int) (n : Nat) : List Int := l.take n ++ List.replicate (n - l.length) 0
theorem sizedL_splice (l : List Int) (n : Nat) : splice (List.replicate n (0 : Int)) 0 (l.take n) = sizedL l n := by
 unfold splice sizedL
 rw [List.take_zero, List.nil_append, Nat.zero_add, List.drop_replicate, List.length_take]
 congr 2
 omega
theorem zbW (l : List Int) (n : Nat) : (sizedL l n).length = n := by
 unfold sizedL; rw [List.length_append, List.length_take, List.length_replicate]; omega
def zbQ.f (l0 : List Int) (a1 : Int) : Option (List Int) := if 0 ≤ a1 then (if a1 ≤ 140737488355328 then some (sizedL l0 a1.toNat) else none) else none
set_option maxHeartbeats 1000000 in
set_option maxRecDepth 100000 in
theorem zbQ.calls (A0 : Option Addr) (c0 : Nat) (l0 : List Int) (a1 : Int) (r : List Int) (w : World) (hr0 : Kd.C (Kd.int .u8) w A0 l0.length l0) (hc0 : l0.length ≤ c0) (h : zbQ.f l0 a1 = some r) :
  Calls Try.prog 47 #[.slice A0 l0.length c0, .int .i64 a1] w fun e w' => ∃ v0_ : Value, e = .returned (v0_) ∧ Kd.R (Kd.int .u8) 5 w' w.heap.size (fun _ => True) v0_ r ∧ Below w.heap.size w w' := by
 unfold zbQ.f at h
 split at h
 ·rename_i h0
  split at h
  ·rename_i h1
   obtain ⟨m, rfl⟩ := Int.eq_ofNat_of_zero_le h0
   rw [Int.toNat_natCast] at h
   obtain rfl := Option.some.inj h
   have HR := zaa.mk hr0
   have HM := zaa.mk (show m ≤ 140737488355328 by omega)
   have hmk := print_make (P := Try.prog) 36 5 .u8 1 Try.underlying36 info5 (by decide) m (by omega)
   rw [made_nums] at hmk
   clear h hr0 hc0 h0 h1
   obtain ⟨z, hz⟩ : ∃ z, z = List.replicate m (0 : Int) := ⟨_, rfl⟩
   rw [← hz] at hmk
   have HZ := zaa.mk hz
   clear hz
   go_enter Try.func47, Try.ntmps47
   go_wp2_with (first | (with_reducible refine wpList_copy_nums rfl (.tmp 8) (.tmp 9) 36 36 rfl 5 Try.underlying36 (by kernel_rfl) .u8 (some ⟨w.heap.size, 0, none⟩) A0 m m l0.length c0 rfl rfl w.heap.size 0 z l0 5 ?hg ?hy ?hd ?hf w.heap.size w ?hb (Nat.le_refl _) ?_; (case hg => exact zbC w _); (case hy => exact Kd.C_below HR.out (zac (Below.refl _ _) _)); (case hd => exact fun _ => rfl); (case hf => rw [HZ.out]; simp); (case hb => exact zac (Below.refl _ _) _); intro w1 HG HB))
   go_ret
   have hs := HG.out
   rw [HZ.out, sizedL_splice] at hs
   have hR := R_of_blk hs (Nat.le_refl _) (by rw [zbW]; have := HM.out; omega)
   rw [zbW] at hR
   exact ⟨_, rfl, hR, HB⟩
  ·cases h
 ·cases h
set_option maxHeartbeats 1000000 in
set_option maxRecDepth 100000 in
theorem zbQ.blk (A0 : Option Addr) (c0 : Nat) (l0 : List Int) (a1 : Int) (r : List Int) (w : World) (hr0 : Kd.C (Kd.int .u8) w A0 l0.length l0) (hc0 : l0.length ≤ c0) (h : zbQ.f l0 a1 = some r) :
  Calls Try.prog 47 #[.slice A0 l0.length c0, .int .i64 a1] w fun e w' => e = .returned (.slice (some ⟨w.heap.size, 0, none⟩) a1.toNat a1.toNat) ∧ w'.heap[w.heap.size]? = some (.cells (nums .u8 r).toArray 5 (0, 0)) ∧ Below w.heap.size w w' := by
 unfold zbQ.f at h
 split at h
 ·rename_i h0
  split at h
  ·rename_i h1
   obtain ⟨m, rfl⟩ := Int.eq_ofNat_of_zero_le h0
   rw [Int.toNat_natCast] at h
   obtain rfl := Option.some.inj h
   have HR := zaa.mk hr0
   have HM := zaa.mk (show m ≤ 140737488355328 by omega)
   have hmk := print_make (P := Try.prog) 36 5 .u8 1 Try.underlying36 info5 (by decide) m (by omega)
   rw [made_nums] at hmk
   clear h hr0 hc0 h0 h1
   obtain ⟨z, hz⟩ : ∃ z, z = List.replicate m (0 : Int) := ⟨_, rfl⟩
   rw [← hz] at hmk
   have HZ := zaa.mk hz
   clear hz
   go_enter Try.func47, Try.ntmps47
   go_wp2_with (first | (with_reducible refine wpList_copy_nums rfl (.tmp 8) (.tmp 9) 36 36 rfl 5 Try.underlying36 (by kernel_rfl) .u8 (some ⟨w.heap.size, 0, none⟩) A0 m m l0.length c0 rfl rfl w.heap.size 0 z l0 5 ?hg ?hy ?hd ?hf w.heap.size w ?hb (Nat.le_refl _) ?_; (case hg => exact zbC w _); (case hy => exact Kd.C_below HR.out (zac (Below.refl _ _) _)); (case hd => exact fun _ => rfl); (case hf => rw [HZ.out]; simp); (case hb => exact zac (Below.refl _ _) _); intro w1 HG HB))
   go_ret
   have hs := HG.out
   rw [HZ.out, sizedL_splice] at hs
   exact ⟨rfl, hs, HB⟩
  ·cases h
 ·cases h
def cutE (l : List S45) (node n : Int) : Option Int :=
 (tree_file.f l node).bind fun e => some (if e = 0 then (if n < 0 then 28 else (if 16384 < n then 22 else 0)) else e)
def cutD (u : List S45) (node n now : Int) : Option (List S45) :=
 if 0 ≤ node ∧ node < (u.length : Int) ∧ 0 ≤ n ∧ n ≤ 16384 then some (u.set node.toNat { zae u node with f1 := sizedL (zae u node).f1 n.toNat, f5 := now }) else none
def tree_Cut.f (k : Nat) (l0_0 : List S45) (a1 : Int) (a2 : Int) (a3 : Int) : Option (List S45 × Int) :=
 (linkP k l0_0 [a1] a3).bind fun p => if p = true then (cutE l0_0 a1 a2).bind fun e => (if e = 0 then (zaJ.f k l0_0).bind fun u => (cutD u a1 a2 a3).bind fun r => some (r, 0) else zaD.f k l0_0 e) else zaD.f k l0_0 100
set_option maxHeartbeats 8000000 in
set_option maxRecDepth 100000 in
theorem tree_Cut.calls (k : Nat) (A0_0 : Option Addr) (c0_0 : Nat) (l0_0 : List S45) (a1 : Int) (a2 : Int) (a3 : Int) (r1 : List S45) (r2 : Int) (w : World) (hr0_0 : Kd.C k45 w A0_0 l0_0.length l0_0) (hc0_0 : l0_0.length ≤ c0_0) (h : tree_Cut.f k l0_0 a1 a2 a3 = some (r1, r2)) :
  Calls Try.prog 25 #[.agg #[.slice A0_0 l0_0.length c0_0], .int .i64 a1, .int .i64 a2, .int .i64 a3] w fun e w' => ∃ v0_ : Value, e = .returned (.tuple #[.agg #[v0_], .int .i64 r2]) ∧ Kd.S k45 45 w' w.heap.size (fun _ => True) v0_ r1 ∧ Below w.heap.size w w' := by
 obtain ⟨p, hP, h⟩ := Option.bind_eq_some_iff.mp h
 have HR := zaa.mk hr0_0
 have HC := zaa.mk hc0_0
 have HP := zaa.mk hP
 have HH := zaa.mk h
 have hut := Try.underlying24
 have hun := Try.underlying45
 have hsi := Try.underlying88
 have HW := zaa.mk (zb5 w A0_0 l0_0.length c0_0)
 have HW0 := zaa.mk (Below.refl (zbp w A0_0 l0_0.length c0_0).heap.size (zbp w A0_0 l0_0.length c0_0))
 clear hr0_0 hc0_0 hP h
 go_enter Try.func25, Try.ntmps25
 go_upto_region 1 with (fail)
 go_cut [20] (fun v20 wc => v20 = .bool (!p) ∧ zaa (Below (zbp w A0_0 l0_0.length c0_0).heap.size (zbp w A0_0 l0_0.length c0_0) wc))
 case first =>
  have hmm := HP.out
  clear HH HP
  unfold linkP at hmm
  obtain ⟨m, hm, hmm⟩ := Option.bind_eq_some_iff.mp hmm
  have HM := zaa.mk hm
  have HD := zaa.mk (Kd.zbL (R_of_blk (xs := [a1]) (k := .i64) (base := 0) (zbC (zbp w A0_0 l0_0.length c0_0) (.cells #[.int .i64 a1] 3)) (Nat.zero_le _) (by simp))).2.2
  have hWs : (zbp w A0_0 l0_0.length c0_0).heap.size = w.heap.size + 1 + 1 := by show ((w.alloc _).alloc _).heap.size = _; rw [World.size_alloc, World.size_alloc]
  rw [hWs] at HD
  clear hm hWs
  cases m with
  | false =>
   obtain rfl := Option.some.inj (show some false = some p from hmm)
   clear hmm
   go_wp2_with (first | (go_at_call 40; refine (zbb.calls k A0_0 c0_0 l0_0 (some ⟨w.heap.size + 1 + 1, 0, none⟩) 1 [a1] false _ (Kd.C_below HR.out (by repeat (first | exact HW.out | exact Below.refl _ _ | apply zac | apply zab | apply zad | apply zaH))) HC.out HD.out (by simp) HM.out).mono ?_; rintro e' w1 ⟨rfl, hb⟩; have HB1 := zaa.mk (zai (zac HW0.out _) hb); clear hb))
   go_meet
   case rel => exact ⟨rfl, HB1⟩
  | true =>
   obtain ⟨tm, ht, hmm⟩ := Option.bind_eq_some_iff.mp (show ((za7.f a3).bind fun tm => some tm) = some p from hmm)
   obtain rfl := Option.some.inj hmm
   have HT := zaa.mk ht
   clear ht hmm
   go_wp2_with (first | (go_at_call 40; refine (zbb.calls k A0_0 c0_0 l0_0 (some ⟨w.heap.size + 1 + 1, 0, none⟩) 1 [a1] true _ (Kd.C_below HR.out (by repeat (first | exact HW.out | exact Below.refl _ _ | apply zac | apply zab | apply zad | apply zaH))) HC.out HD.out (by simp) HM.out).mono ?_; rintro e' w1 ⟨rfl, hb⟩; have HB1 := zaa.mk (zai (zac HW0.out _) hb); clear hb) | (go_at_call 45; refine (za7.calls a3 _ _ HT.out).mono ?_; rintro e' w2 ⟨rfl, ⟨nd, rfl⟩⟩))
   go_meet
   case rel => exact ⟨rfl, ⟨by repeat (first | exact HB1.out | exact Below.refl _ _ | apply zac | apply zab | apply zad | apply zaH)⟩⟩
 case rest =>
  clear HP HW0
  obtain ⟨rfl, HB⟩ := hcut
  have hct := zaZ HB.out
  cases p with
  | false =>
   have hbad : zaD.f k l0_0 100 = some (r1, r2) := HH.out
   have HBAD := zaa.mk hbad
   clear hbad
   go_wp2_with (first | (go_at_call 41; refine (zaD.calls k A0_0 c0_0 l0_0 100 r1 r2 _ (Kd.C_below HR.out (zai HW.out HB.out)) HC.out HBAD.out).mono ?_; rintro e' w1 ⟨v, rfl, hS, hb⟩; obtain ⟨vA, vc, rfl⟩ := Kd.zbc hS; have HS1 := zaa.mk hS; have HB1 := zaa.mk (zai HB.out hb); have HK := zaa.mk (zbe HB1.out); have hct1 := (zah HK.out.2 0).trans rfl; have hf1 := zaf HK.out.2 0; clear hS hb))
   refine bodyPost_ret (za6 rfl _ _ (w.heap.size + 1) 24 #[.slice vA r1.length vc] (0, 0) _ rfl (zaF HK.out.2 0 _ rfl) Try.underlying24 rfl (by kernel_rfl)) rfl ?_
   exact ⟨_, rfl, Kd.zbK (Kd.za8 HS1.out (zai HW.out HB.out).size) HK.out.2 (by decide) 0 _, (zai HW.out HB1.out).setCell (p := ⟨w.heap.size + 1, 0, none⟩) (by show _ ≤ _ + 1; omega) _⟩
  | true =>
   obtain ⟨e, hE, hq⟩ := Option.bind_eq_some_iff.mp (show ((cutE l0_0 a1 a2).bind fun e => (if e = 0 then (zaJ.f k l0_0).bind fun u => (cutD u a1 a2 a3).bind fun r => some (r, 0) else zaD.f k l0_0 e)) = some (r1, r2) from HH.out)
   have HQ := zaa.mk hq
   obtain ⟨e0, hd, hE⟩ := Option.bind_eq_some_iff.mp hE
   have HE := zaa.mk (Option.some.inj hE)
   have HD := zaa.mk hd
   clear HH hq hE hd
   go_upto_block 0 with (first | (go_at_call 46; refine (tree_file.calls A0_0 c0_0 l0_0 a1 e0 _ (Kd.C_below HR.out (zai HW.out HB.out)) HC.out HD.out).mono ?_; rintro e' w1 ⟨rfl, hb⟩; have HB1 := zaa.mk (zai HB.out hb); have hct1 := zaZ HB1.out; clear hb))
   clear HB hct
   go_cut [10] (fun v10 wc => v10 = .int .i64 e ∧ zaa (Below (zbp w A0_0 l0_0.length c0_0).heap.size (zbp w A0_0 l0_0.length c0_0) wc))
   case first =>
    clear HQ
    have hE := HE.out
    by_cases y1 : e0 = 0
    ·have Y1 : (e0 != 0) = false := by simpa using y1
     rw [if_pos y1] at hE
     clear HE
     by_cases y2 : a2 < 0
     ·have Y2 : decide (a2 < 0) = true := decide_eq_true y2
      rw [if_pos y2] at hE
      subst hE
      clear y1 y2
      go_wp2
      go_meet
      case rel => exact ⟨rfl, HB1⟩
     ·have Y2 : decide (a2 < 0) = false := decide_eq_false y2
      rw [if_neg y2] at hE
      by_cases y3 : 16384 < a2
      ·have Y3 : decide (16384 < a2) = true := decide_eq_true y3
       rw [if_pos y3] at hE
       subst hE
       clear y1 y2 y3
       go_wp2
       go_meet
       case rel => exact ⟨rfl, HB1⟩
      ·have Y3 : decide (16384 < a2) = false := decide_eq_false y3
       rw [if_neg y3] at hE
       subst hE
       have Y4 := zaa.mk y1
       clear y1 y2 y3
       go_wp2
       go_meet
       case rel => exact ⟨by rw [Y4.out], HB1⟩
    ·have Y1 : (e0 != 0) = true := by simpa using y1
     rw [if_neg y1] at hE
     subst hE
     clear HE y1
     go_wp2
     go_meet
     case rel => exact ⟨rfl, HB1⟩
   case rest =>
    clear HE HD hct1 HB1
    obtain ⟨rfl, HB⟩ := hcut
    have hct := zaZ HB.out
    by_cases z1 : e = 0
    ·have Z1 : (e != 0) = false := by simpa using z1
     obtain rfl := z1
     have hq := HQ.out
     rw [if_pos rfl] at hq
     obtain ⟨u, hu, hq⟩ := Option.bind_eq_some_iff.mp hq
     obtain ⟨r, hr, hq⟩ := Option.bind_eq_some_iff.mp hq
     injection (Option.some.inj hq) with hq1 hq2
     subst hq1; subst hq2
     unfold cutD at hr
     split at hr
     ·rename_i hg1
      have HADD := zaa.mk (Option.some.inj hr)
      have HU := zaa.mk hu
      have HG1 := zaa.mk hg1
      have HSZ : zaa (w.heap.size + 2 ≤ wc.heap.size) := ⟨by have := HB.out.size; have h2 : (zbp w A0_0 l0_0.length c0_0).heap.size = w.heap.size + 1 + 1 := (by show ((w.alloc _).alloc _).heap.size = _; rw [World.size_alloc, World.size_alloc]); omega⟩
      have p0 := eq_true hg1.1
      have p1 := eq_true hg1.2.1
      have hpos : 0 < u.length := by omega
      clear HQ hq hu hr hg1
      go_wp2_with (first | (go_at_call 42; refine (zaJ.calls k A0_0 c0_0 l0_0 u _ (Kd.C_below HR.out (zai HW.out HB.out)) HC.out HU.out).mono ?_; rintro e' w1 ⟨v, rfl, hS, hb⟩; obtain ⟨g, vc, rfl, hgN, hgl, _⟩ := Kd.S_form hS hpos; have HB1 := zai HB.out hb; have hK := zbe HB1; have hX := boxed hK.1 hK.2 (zai HW.out HB1) (Kd.za8 (Kd.zbw (ok' := (fun k => k ≠ w.heap.size ∧ k ≠ w.heap.size + 1)) (Kd.S_bound hS) (fun k hk => ⟨by have := HSZ.out; have := hk.2.1; omega, by have := HSZ.out; have := hk.2.1; omega⟩)) (zai HW.out HB.out).size); have hct1 := zaZ HB1; have hf1 := zaf hK.1 0; have HK6 := zaa.mk hX.1; have HK12 := zaa.mk hX.2.1; have HS1 := zaa.mk hX.2.2.1; have HB2 := zaa.mk hX.2.2.2; have hct2 := (zah HK6.out 0).trans rfl; have hf2 := zaf HK6.out 0; clear hS hb hX HB1 hK; have hbs := HB2.out.size; obtain ⟨dA, dm, hdc, hdm, hdC, hokg, hgl2, hbg, hda⟩ := data_anew HS1.out a1 HG1.out.1 HG1.out.2.1 hbs (fun q hq => ⟨by have := zaV HK12.out; omega, by have := zaV HK12.out; omega⟩); have HDA := zaa.mk hda; have HDC := zaa.mk hdC; have HDM := zaa.mk hdm; have HGB := zaa.mk hbg; have HOG := zaa.mk hokg; clear hda hdC hdm hbg hokg hgl2 hbs))
      have hsz : zbQ.f (zae u a1).f1 a2 = some (sizedL (zae u a1).f1 a2.toNat) := by
       unfold zbQ.f
       rw [if_pos HG1.out.2.2.1, if_pos (by have := HG1.out.2.2.2; omega)]
      have HZ := zaa.mk hsz
      clear hsz
      refine start_ (n := 14) (S := fun w' => w'.cell? ⟨w.heap.size, 0, none⟩ = some (.slice (some ⟨g, 0, none⟩) u.length vc) ∧ w'.cell? ⟨g, a1.toNat * 6 + 1, none⟩ = some (.slice dA (zae u a1).f1.length dm)) (ds := [13]) #[false, false, false, false, false, false, false, false, false, false, false, false, false, false] (by kernel_rfl) rfl rfl ⟨hct2, hdc⟩ (fun hHeld => ?_)
      refine zb2 (i := 0) (N := some 46) (v := ?_) (a' := ?_) #[true, false, false, false, false, false, false, false, false, false, false, false, false, false] rfl rfl (by kernel_rfl) (fun _ _ _ h => h) (Or.inl ⟨by rfl, ?_⟩) ?_ ?_
      rotate_left
      ·intro w'
       go_simp
       with_reducible rfl
      rotate_left
      ·simp only [Act.put, List.setIfInBounds_toArray, List.set_cons_zero, List.set_cons_succ, zbq, zbv]
       rfl
      refine zb2 (i := 2) (N := some 48) (v := ?_) (a' := ?_) #[true, false, true, false, false, false, false, false, false, false, false, false, false, false] rfl rfl (by kernel_rfl) (fun _ _ _ h => h) (Or.inl ⟨by rfl, ?_⟩) ?_ ?_
      rotate_left
      ·intro w'
       go_simp
       with_reducible rfl
      rotate_left
      ·simp only [Act.put, List.setIfInBounds_toArray, List.set_cons_zero, List.set_cons_succ, zbq, zbv]
       rfl
      refine zb2 (i := 3) (N := some 49) (v := ?_) (a' := ?_) #[true, false, true, true, false, false, false, false, false, false, false, false, false, false] rfl rfl (by kernel_rfl) (fun _ _ _ h => h) (Or.inl ⟨by rfl, ?_⟩) ?_ ?_
      rotate_left
      ·intro w'
       go_simp
       with_reducible rfl
      rotate_left
      ·simp only [Act.put, List.setIfInBounds_toArray, List.set_cons_zero, List.set_cons_succ, zbq, zbv]
       rfl
      refine zb2 (i := 5) (N := some 51) (v := ?_) (a' := ?_) #[true, false, true, true, false, true, false, false, false, false, false, false, false, false] rfl rfl (by kernel_rfl) (fun _ _ _ h => h) (Or.inl ⟨by rfl, ?_⟩) ?_ ?_
      rotate_left
      ·intro w'
       go_simp
       with_reducible rfl
      rotate_left
      ·simp only [Act.put, List.setIfInBounds_toArray, List.set_cons_zero, List.set_cons_succ, zbq, zbv]
       rfl
      refine zb2 (i := 9) (N := some 55) (v := ?_) (a' := ?_) #[true, false, true, true, false, true, false, false, false, true, false, false, false, false] rfl rfl (by kernel_rfl) (fun _ _ _ h => h) (Or.inl ⟨by rfl, ?_⟩) ?_ ?_
      rotate_left
      ·intro w'
       go_simp
       with_reducible rfl
      rotate_left
      ·simp only [Act.put, List.setIfInBounds_toArray, List.set_cons_zero, List.set_cons_succ, zbq, zbv]
       rfl
      refine take_ (i := 1) (N := some 47) (v := ?_) (a' := ?_) #[true, true, true, true, false, true, false, false, false, true, false, false, false, false] rfl rfl (by kernel_rfl) (fun _ _ _ h => h) (Or.inl ⟨by rfl, ?_⟩) hHeld ?_ ?_
      rotate_left
      ·rintro w' ⟨s0, s1⟩
       go_simp
       with_reducible rfl
      rotate_left
      ·simp only [Act.put, List.setIfInBounds_toArray, List.set_cons_zero, List.set_cons_succ, zbq, zbv]
       rfl
      refine take_ (i := 4) (N := some 50) (v := ?_) (a' := ?_) #[true, true, true, true, true, true, false, false, false, true, false, false, false, false] rfl rfl (by kernel_rfl) (fun _ _ _ h => h) (Or.inl ⟨by rfl, ?_⟩) hHeld ?_ ?_
      rotate_left
      ·rintro w' ⟨s0, s1⟩
       go_simp
       with_reducible rfl
      rotate_left
      ·simp only [Act.put, List.setIfInBounds_toArray, List.set_cons_zero, List.set_cons_succ, zbq, zbv]
       rfl
      refine zb2 (i := 6) (N := some 52) (v := ?_) (a' := ?_) #[true, true, true, true, true, true, true, false, false, true, false, false, false, false] rfl rfl (by kernel_rfl) (fun _ _ _ h => h) (Or.inl ⟨by rfl, ?_⟩) ?_ ?_
      rotate_left
      ·intro w'
       go_simp
       with_reducible rfl
      rotate_left
      ·simp only [Act.put, List.setIfInBounds_toArray, List.set_cons_zero, List.set_cons_succ, zbq, zbv]
       rfl
      refine zb2 (i := 7) (N := some 53) (v := ?_) (a' := ?_) #[true, true, true, true, true, true, true, true, false, true, false, false, false, false] rfl rfl (by kernel_rfl) (fun _ _ _ h => h) (Or.inl ⟨by rfl, ?_⟩) ?_ ?_
      rotate_left
      ·intro w'
       go_simp
       with_reducible rfl
      rotate_left
      ·simp only [Act.put, List.setIfInBounds_toArray, List.set_cons_zero, List.set_cons_succ, zbq, zbv]
       rfl
      refine take_ (i := 8) (N := some 54) (v := ?_) (a' := ?_) #[true, true, true, true, true, true, true, true, true, true, false, false, false, false] rfl rfl (by kernel_rfl) (fun _ _ _ h => h) (Or.inl ⟨by rfl, ?_⟩) hHeld ?_ ?_
      rotate_left
      ·rintro w' ⟨s0, s1⟩
       go_simp
       with_reducible rfl
      rotate_left
      ·simp only [Act.put, List.setIfInBounds_toArray, List.set_cons_zero, List.set_cons_succ, zbq, zbv]
       rfl
      refine one_ (i := 10) (N := some 56) #[true, true, true, true, true, true, true, true, true, true, true, false, false, false] rfl rfl (by kernel_rfl) (by decide) (fun K hK => ?_)
      refine goes_ Try.func47 (by kernel_rfl) rfl #[.slice dA (zae u a1).f1.length dm, .int .i64 a2] (by rfl) rfl rfl (by simp only [List.map_toArray, List.map_cons, List.map_nil]; rfl) ?_
      with_reducible refine (zbQ.calls dA dm _ a2 _ _ (Kd.C_below HDC.out (by repeat (first | exact Below.refl _ _ | apply zaH | apply zab | apply zad))) HDM.out HZ.out).mono ?_
      rintro e' w3 ⟨v, rfl, hR3, hb3⟩
      obtain ⟨A3, m3, c3, rfl⟩ := slice_any hR3
      have hb4 := zai (zaH (Below.refl _ _)) hb3
      obtain ⟨hfg, ⟨u1, hu1⟩, ⟨u5, hu5⟩, hfg5, _, hda⟩ := HDA.out w3 _ _ hb4 hR3
      have HFIN := zaa.mk hda
      have HK6b := zaa.mk (zaq HK6.out hb4)
      have HK12b := zaa.mk (zaq HK12.out hb4)
      have HB5 := zaa.mk (zai HB2.out hb4)
      have hct3 := (zah HK6b.out 0).trans rfl
      have hdc3 := (hb4.cell (World.block_lt_of_cell? _ _ hdc)).trans hdc
      have HK6c := zaa.mk (fun u' : Value => zaC HK6b.out (p := ⟨g, a1.toNat * 6 + 1, none⟩) (fun e => HOG.out.1 e.symm) u')
      have HK12c := zaa.mk (fun u' : Value => zaC HK12b.out (p := ⟨g, a1.toNat * 6 + 1, none⟩) (fun e => HOG.out.2 e.symm) u')
      have HK6d := zaa.mk (fun u' u2 : Value => zaC (HK6c.out u') (p := ⟨g, a1.toNat * 6 + 5, none⟩) (fun e => HOG.out.1 e.symm) u2)
      have HK12d := zaa.mk (fun u' u2 : Value => zaC (HK12c.out u') (p := ⟨g, a1.toNat * 6 + 5, none⟩) (fun e => HOG.out.2 e.symm) u2)
      have hct4 := fun u' => (zah (HK6c.out u') 0).trans rfl
      have hct5 := fun u' u2 => (zah (HK6d.out u' u2) 0).trans rfl
      have hct12 := fun u' u2 => (zah (HK12d.out u' u2) 0).trans rfl
      have hf12 := fun u' u2 => zaf (HK12d.out u' u2) 0
      clear hR3 hb3 hb4 hda
      refine ⟨_, rfl, ?_⟩
      refine hK.out _ _ ⟨hct3, hdc3⟩ (fun hHeld => ?_)
      clear hK K
      refine norm_ (a' := ?_) ?_ ?_
      rotate_left
      ·show Act.put _ (some 56) _ = _
       simp only [Act.put, List.setIfInBounds_toArray, List.set_cons_zero, List.set_cons_succ, zbq, zbv]
       rfl
      refine zb2 (i := 11) (N := some 57) (v := ?_) (a' := ?_) #[true, true, true, true, true, true, true, true, true, true, true, true, false, false] rfl rfl (by kernel_rfl) (fun _ _ _ h => h) (Or.inl ⟨by rfl, ?_⟩) ?_ ?_
      rotate_left
      ·intro w'
       go_simp
       with_reducible rfl
      rotate_left
      ·simp only [Act.put, List.setIfInBounds_toArray, List.set_cons_zero, List.set_cons_succ, zbq, zbv]
       rfl
      refine zb2 (i := 12) (N := some 58) (v := ?_) (a' := ?_) #[true, true, true, true, true, true, true, true, true, true, true, true, true, false] rfl rfl (by kernel_rfl) (fun _ _ _ h => h) (Or.inl ⟨by rfl, ?_⟩) ?_ ?_
      rotate_left
      ·intro w'
       go_simp
       with_reducible rfl
      rotate_left
      ·simp only [Act.put, List.setIfInBounds_toArray, List.set_cons_zero, List.set_cons_succ, zbq, zbv]
       rfl
      refine last_ (i := 13) (N := none) #[true, true, true, true, true, true, true, true, true, true, true, true, true, true] rfl rfl (by kernel_rfl) (by decide) (fun K hK => ?_)
      refine skip_ (w1 := ?_) (by rfl) rfl ?_ ?_
      rotate_left
      ·go_simp
       rfl
      refine hK.out _ _ ?_
      clear hK K
      refine done_ (by kernel_rfl) ?_
      go_wp2
      refine bodyPost_ret (za6 rfl _ _ (w.heap.size + 1) 24 #[.slice (some ⟨g, 0, none⟩) u.length vc] (0, 0) _ rfl (zaF (HK12d.out _ _) 0 _ rfl) Try.underlying24 rfl (by kernel_rfl)) rfl ?_
      refine ⟨_, rfl, ?_, ((HB5.out.setCell HGB.out _).setCell HGB.out _).setCell (p := ⟨w.heap.size + 1, 0, none⟩) (by show _ ≤ _ + 1; omega) _⟩
      rw [← HADD.out]
      exact Kd.zbw (Kd.zbK (HFIN.out _) (HK12d.out _ _) (by decide) 0 _) (fun _ _ => trivial)
     ·cases hr
    ·have Z1 : (e != 0) = true := by simpa using z1
     have hbad := HQ.out
     rw [if_neg z1] at hbad
     have HBAD := zaa.mk hbad
     clear hbad
     clear z1
     go_wp2_with (first | (go_at_call 41; refine (zaD.calls k A0_0 c0_0 l0_0 e r1 r2 _ (Kd.C_below HR.out (zai HW.out HB.out)) HC.out HBAD.out).mono ?_; rintro e' w1 ⟨v, rfl, hS, hb⟩; obtain ⟨vA, vc, rfl⟩ := Kd.zbc hS; have HS1 := zaa.mk hS; have HB1 := zaa.mk (zai HB.out hb); have HK := zaa.mk (zbe HB1.out); have hct1 := (zah HK.out.2 0).trans rfl; have hf1 := zaf HK.out.2 0; clear hS hb))
     refine bodyPost_ret (za6 rfl _ _ (w.heap.size + 1) 24 #[.slice vA r1.length vc] (0, 0) _ rfl (zaF HK.out.2 0 _ rfl) Try.underlying24 rfl (by kernel_rfl)) rfl ?_
     exact ⟨_, rfl, Kd.zbK (Kd.za8 HS1.out (zai HW.out HB.out).size) HK.out.2 (by decide) 0 _, (zai HW.out HB1.out).setCell (p := ⟨w.heap.size + 1, 0, none⟩) (by show _ ≤ _ + 1; omega) _⟩
end Go.Proofs.Ytjghephnjkffcaa.PCk
