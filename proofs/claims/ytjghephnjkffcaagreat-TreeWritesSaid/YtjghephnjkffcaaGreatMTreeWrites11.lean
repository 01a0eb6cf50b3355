/- Parts of one proof, merged by a program of this repo: walks over the given program and plain facts. -/
import Derived.Test.YtjghephnjkffcaaGreatMTreeWrites4
import Derived.Test.YtjghephnjkffcaaGreatMTreeWrites9
import Derived.Test.YtjghephnjkffcaaGreatMTreeWrites10
import Derived.Test.YtjghephnjkffcaaGreatMTreeWrites2
import Derived.Test.YtjghephnjkffcaaGreatMTreeWrites5
import Derived.Test.YtjghephnjkffcaaGreatMTreeWrites8
import Derived.Test.YtjghephnjkffcaaGreatMTreeWrites7
import Derived.WalkSpells
import Derived.Shelf.Spec.SlicesInsertGrow
import Derived.Deep.DrawnRows
import Derived.Deep.RegionHeld3
namespace Go.Proofs.YtjghephnjkffcaaGreat.PAll
open Go.RowKit Go.Proofs.YtjghephnjkffcaaGreatW.PrintWords Go.Proofs.YtjghephnjkffcaaGreatW.PrintLast Go.Proofs.YtjghephnjkffcaaGreatW.PrintMore
attribute [local go_sem] zb2 zb0 zcn zcm zbF zbE zb1 zbZ
set_option linter.unusedVariables false
set_option linter.unusedSimpArgs false
theorem names_anew {w2 : World} {base g c : Nat} {ok : Nat → Prop} {l : List S40} (hS : Kd.S k40 40 w2 base ok (.slice (some ⟨g, 0, none⟩) l.length c) l) (x : Int) (h0 : 0 ≤ x) (h1 : x < (l.length : Int)) (hbase : base ≤ w2.heap.size) (hfresh : ∀ k, w2.heap.size ≤ k → ok k) :
  ∃ (A : Option Addr) (m : Nat), w2.cell? ⟨g, x.toNat * 6 + 2, none⟩ = some (.slice A (zah l x).f2.length m) ∧ (zah l x).f2.length ≤ m ∧ Kd.C k50 w2 A (zah l x).f2.length (zah l x).f2 ∧ ok g ∧ g < w2.heap.size ∧ base ≤ g ∧
   ∀ (w3 : World) (v2' : Value) (ns' : List S50), Below w2.heap.size w2 w3 → k50.R 50 w3 w2.heap.size (fun _ => True) v2' ns' →
    (∀ j, w3.frozen? ⟨g, j, none⟩ = false) ∧ (∃ u, w3.cell? ⟨g, x.toNat * 6 + 2, none⟩ = some u) ∧ (∃ u, (w3.setCell ⟨g, x.toNat * 6 + 2, none⟩ v2').cell? ⟨g, x.toNat * 6 + 5, none⟩ = some u) ∧ (∀ j, (w3.setCell ⟨g, x.toNat * 6 + 2, none⟩ v2').frozen? ⟨g, j, none⟩ = false) ∧
    ∀ now : Int, Kd.S k40 40 ((w3.setCell ⟨g, x.toNat * 6 + 2, none⟩ v2').setCell ⟨g, x.toNat * 6 + 5, none⟩ (.int .i64 now)) base ok (.slice (some ⟨g, 0, none⟩) l.length c) (l.set x.toNat { zah l x with f2 := ns', f5 := now }) := by
 obtain ⟨oki, cs, hcl, hM, hcc, hoki, hH⟩ := Kd.S_lend hS z40 x h0 h1
 obtain ⟨g', cap', e', hbg, hgl, cells, hgb⟩ := Kd.S_form hS (by omega)
 injection e' with e1 _ _
 injection e1 with e1
 injection e1 with e1
 subst e1
 obtain ⟨v1, v2, rfl, hR1, hR2⟩ := zck hM
 obtain ⟨A, m, rfl, hm, hC⟩ := Kd.R_reads hR2
 refine ⟨A, m, hcc 2 _ rfl, hm, hC, (Kd.S_R hS).1 g rfl, hgl, hbg, fun w3 v2' ns' hb hR3 => ?_⟩
 have hgb3 := zan hgb hb
 have hH3 := Kd.H_below (Kd.H_widen hH) hb
 have hR13 : (Kd.int .u8).R 5 w3 base (fun k => oki k ∨ (ok k ∧ w2.heap.size ≤ k)) v1 (zah l x).f1 := Kd.zbj (Kd.zcj hR1 hb) (fun k hk => .inl hk)
 have hR23 : k50.R 50 w3 base (fun k => oki k ∨ (ok k ∧ w2.heap.size ≤ k)) v2' ns' := Kd.zcw (Kd.zbj (Kd.zci hR3) (fun k hk => .inr ⟨hfresh k hk.2.1, hk.2.1⟩)) hbase
 have hseg1 := (Kd.H_seg hH3 h0 h1 (seg := [v2']) (j := 2) (by show 2 + 1 ≤ 6; omega) (fun q hq => by rw [List.mem_singleton.1 hq]; exact (Kd.R_val hR3).2)).1
 have hb1 := blk_set hgb3 (x.toNat * 6 + 2) v2'
 have hcell5 : ∃ u, (w3.setCell ⟨g, x.toNat * 6 + 2, none⟩ v2').cell? ⟨g, x.toNat * 6 + 5, none⟩ = some u := by
  obtain ⟨rows, _, _, _, _, hc5, _⟩ := Kd.H_raw hseg1 h0 h1
  exact ⟨_, hc5 5 _ rfl⟩
 refine ⟨fun j => zaf hgb3 j, ⟨_, (hb.cell hgl).trans (hcc 2 _ rfl)⟩, hcell5, fun j => zaf hb1 j, fun now => ?_⟩
 have hseg2 := (Kd.H_seg hseg1 h0 h1 (seg := [.int .i64 now]) (j := 5) (by show 5 + 1 ≤ 6; omega) (fun q hq => by rw [List.mem_singleton.1 hq]; rfl)).1
 refine Kd.H_back hseg2 (x' := { zah l x with f2 := ns', f5 := now }) (okp := fun k => oki k ∨ (ok k ∧ w2.heap.size ≤ k)) ?_ (fun _ hk => hk)
 exact zcg _ _ _ { zah l x with f2 := ns', f5 := now } (Kd.R_set (Kd.R_set hR13 hgb3 (by decide) _ _) hb1 (by decide) _ _) (Kd.R_set (Kd.R_set hR23 hgb3 (by decide) _ _) hb1 (by decide) _ _)
def putAt (s : ByteArray) : List S50 → Nat
 | [] => 0
 | x :: t => if Op.bytesLess x.f0.toList s.toList = true then putAt s t + 1 else 0
theorem putAt_drop (s : ByteArray) (ns : List S50) (i : Nat) (h : i < ns.length) : putAt s (ns.drop i) = if Op.bytesLess (zau ns i).f0.toList s.toList = true then putAt s (ns.drop (i + 1)) + 1 else 0 := by
 rw [List.drop_eq_getElem_cons h, putAt]
 have e : zau ns (i : Int) = ns[i] := by unfold zau; simp [h]
 rw [e]
theorem nameCut_to (A : Option Addr) (c : Nat) (ns : List S50) (j : Nat) (hj : j ≤ ns.length) (hc : ns.length ≤ c) : ∀ W : World, (Instr.slice 38 (.slice A ns.length c) none (some (.int .i64 (j : Int))) none).run Tryz.prog W = .ok (.slice A j c) W := by
 obtain ⟨i0, hi0, _, hsz, _⟩ := info_parts info50
 have h := cut_to (P := Tryz.prog) 38 50 .i64 Tryz.underlying38 hi0 A ns.length c (j : Int) (by omega) (by omega) hc
 rw [Int.toNat_natCast] at h
 exact h
theorem nameCut_from (A : Option Addr) (c : Nat) (ns : List S50) (j : Nat) (hj : j ≤ ns.length) (hc : ns.length ≤ c) : ∃ (A' : Option Addr) (c' : Nat), (∀ W : World, (Instr.slice 38 (.slice A ns.length c) (some (.int .i64 (j : Int))) none none).run Tryz.prog W = .ok (.slice A' (ns.length - j) c') W) ∧ ∀ W, Kd.C k50 W A ns.length ns → Kd.C k50 W A' (ns.length - j) (ns.drop j) := by
 obtain ⟨i0, hi0, _, hsz, _⟩ := info_parts info50
 have h := cut_from (P := Tryz.prog) 38 50 .i64 Tryz.underlying38 hi0 2 hsz A ns.length c (j : Int) (by omega) (by omega)
 rw [Int.toNat_natCast] at h
 refine ⟨_, c - j, h, fun W hC => ?_⟩
 have h2 := Kd.C_drop hC hj hc
 rwa [List.length_drop] at h2
theorem copy_take (k : Nat) (A : Option Addr) (c : Nat) (ns : List S50) (j : Nat) (hj : j ≤ ns.length) (hc : ns.length ≤ c) (hf : zaC.f k (ns.take j) = some (ns.take j)) (w : World) (h : Kd.C k50 w A ns.length ns) :
  Calls Tryz.prog 90 #[.slice A j c] w fun e w' => ∃ v0_ : Value, e = .returned (v0_) ∧ Kd.R k50 50 w' w.heap.size (fun _ => True) v0_ (ns.take j) ∧ Below w.heap.size w w' := by
 have hl : (ns.take j).length = j := by rw [List.length_take]; omega
 have h2 := zaC.calls k A c (ns.take j) (ns.take j) w (Kd.C_take h hj) (by omega) hf
 rwa [hl] at h2
def putN (l : List S40) (d : Int) (s : ByteArray) (n now : Int) : List S40 :=
 l.set d.toNat { zah l d with f2 := ((zah l d).f2.take (putAt s (zah l d).f2) ++ [⟨s, n⟩]) ++ (zah l d).f2.drop (putAt s (zah l d).f2), f5 := now }
set_option maxHeartbeats 8000000 in
set_option maxRecDepth 100000 in
theorem gangwayref13_put.calls (k : Nat) (W : World) (base g c N : Nat) (ok : Nat → Prop) (l : List S40) (hN : l.length = N) (d : Int) (s : ByteArray) (n now : Int) (hS : Kd.S k40 40 W base ok (.slice (some ⟨g, 0, none⟩) N c) l) (h0 : 0 ≤ d) (h1 : d < (N : Int)) (hn0 : 0 < n) (hn1 : n < (N : Int)) (hfresh : ∀ k, W.heap.size ≤ k → ok k) (hbase : base ≤ W.heap.size) (hl : (zah l d).f2.length ≤ 1000000)
  (hcn : zaC.f k ((zah l d).f2.take (putAt s (zah l d).f2)) = some ((zah l d).f2.take (putAt s (zah l d).f2))) :
  Calls Tryz.prog 65 #[.agg #[.slice (some ⟨g, 0, none⟩) N c], .int .i64 d, .string s, .int .i64 n, .int .i64 now] W fun e w' => e = .returned (.tuple #[]) ∧ Kd.S k40 40 w' base ok (.slice (some ⟨g, 0, none⟩) N c) (zcs (putN l d s n now) n 1) ∧ Below base W w' ∧ (∀ k, k < W.heap.size → ¬ ok k → w'.heap[k]? = W.heap[k]?) := by
 obtain rfl := hN
 have hut := Tryz.underlying24
 have hun := Tryz.underlying40
 have hum := Tryz.underlying50
 obtain ⟨A, m, hc2, hm, hC, hog, hgl, hbg, HK⟩ := names_anew hS d h0 h1 hbase hfresh
 obtain ⟨ns, hns⟩ : ∃ ns, ns = (zah l d).f2 := ⟨_, rfl⟩
 have HSET : zaa (∀ t : List S50, t = (ns.take (putAt s ns) ++ [⟨s, n⟩]) ++ ns.drop (putAt s ns) → l.set d.toNat { zah l d with f2 := t, f5 := now } = putN l d s n now) := ⟨fun t ht => by unfold putN; rw [ht, hns]⟩
 rw [← hns] at hc2 hm hC hcn hl
 have hx2 : (W.alloc (.cells #[.slice (some ⟨g, 0, none⟩) l.length c] 24)).cell? ⟨g, d.toNat * 6 + 2, none⟩ = some (.slice A ns.length m) := (World.cell?_alloc_lt _ _ _ (World.block_lt_of_cell? _ _ hc2)).trans hc2
 have HX := zaa.mk (zbb W (.cells #[.slice (some ⟨g, 0, none⟩) l.length c] 24))
 have HB := zaa.mk (zad (Below.refl W.heap.size W) (.cells #[.slice (some ⟨g, 0, none⟩) l.length c] 24))
 have HCN := zaa.mk (Kd.C_below hC HB.out)
 have HM := zaa.mk hm
 have HKK := zaa.mk HK
 have HCP := zaa.mk hcn
 have HOG := zaa.mk hog
 have HGL := zaa.mk hgl
 have HBG := zaa.mk hbg
 have p0 := eq_true h0
 have p1 := eq_true h1
 have hmax : ns.length ≤ 9223372036854775807 := by omega
 have HN0 : zaa (0 ≤ n) := ⟨by omega⟩
 have HN1 := zaa.mk hn1
 have HLEN : zaa ((putN l d s n now).length = l.length) := ⟨List.length_set⟩
 have hng : decide (n > 0) = true := decide_eq_true hn0
 have q0 := eq_true HN0.out
 have q1 := eq_true hn1
 clear hS hfresh hC hcn HK hc2 hns hog hgl hbg hm
 go_enter Tryz.func65, Tryz.ntmps65
 go_wp2
 go_loop [11] (fun v11 => ∃ i : Nat, i ≤ ns.length ∧ v11 = .int .i64 i ∧ zaa (i + putAt s (ns.drop i) = putAt s ns)) (fun v11 => ns.length - (intOf v11).toNat)
 case atStart => exact ⟨0, Nat.zero_le _, rfl, ⟨by simp⟩⟩
 case round =>
  obtain ⟨i, hi, rfl, HI⟩ := hrel
  by_cases hlt : i < ns.length
  ·have hp := putAt_drop s ns i hlt
   obtain ⟨na, hA, hx0, hx1⟩ := zb4 HCN.out (i : Int) (by omega) (by omega)
   subst hA
   rw [Int.toNat_natCast] at hx0
   clear hx1
   by_cases hb : Op.bytesLess (zau ns i).f0.toList s.toList = true
   ·rw [if_pos hb] at hp
    have HP := zaa.mk hp
    clear hp
    go_wp2
    go_round
    case rel => exact ⟨i + 1, by omega, by go_num, ⟨by have := HI.out; have := HP.out; omega⟩⟩
    case measure => simp [intOf]; omega
   ·rw [if_neg hb] at hp
    have hb2 : Op.bytesLess (zau ns i).f0.toList s.toList = false := by simpa using hb
    replace HI := zaa.mk (show i + 0 = putAt s ns by rw [← hp]; exact HI.out)
    clear hp hb
    have HIP : zaa (putAt s ns = i) := ⟨by have := HI.out; omega⟩
    have HCPI : zaa (zaC.f k (ns.take i) = some (ns.take i)) := ⟨by have h := HCP.out; rwa [HIP.out] at h⟩
    have ht1 := nameCut_to (some na) m ns i hi HM.out
    obtain ⟨A', c', hd1, hdc⟩ := nameCut_from (some na) m ns i hi HM.out
    have HDC := zaa.mk hdc
    clear hdc
    go_wp2_with (first | (go_at_call 90; refine (copy_take k (some na) m ns i hi HM.out HCPI.out _ HCN.out).mono ?_; rintro e' w1 ⟨v, rfl, hR, hb⟩; have HR1 := zaa.mk hR; have HB1 := zaa.mk hb; have HX1 := zaa.mk (zan HX.out hb); have hx21 := (hb.cell (World.block_lt_of_cell? _ _ hx2)).trans hx2; have hct1 := (zac HX1.out 0).trans rfl; clear hR hb) | (at_builtin; refine Kd.R_append k50 (w0 := (W.alloc (.cells #[.slice (some ⟨g, 0, none⟩) l.length c] 24))) (W.alloc (.cells #[.slice (some ⟨g, 0, none⟩) l.length c] 24)).heap.size rfl (.tmp 45) (.tmp 49) 38 50 (.agg #[.string ⟨#[]⟩, .int .i64 0]) 24 rfl Tryz.underlying38 info50 rfl (by decide) (by omega) v (ns.take i) ⟨s, n⟩ [.string s, .int .i64 n] (fun _ => True) (fun _ => False) rfl rfl (k50_mkM _ _ _ ⟨s, n⟩) (fun _ hk => hk.elim) (fun _ _ => trivial) HR1.out HB1.out HB1.out.size (by rw [List.length_take]; omega) ?_; intro v1 w2 hr2 hb2 hg2 hat2; have HR2 := zaa.mk hr2; have HB2 := zaa.mk hb2; have HX2 := zaa.mk (zan HX.out hb2); have hx22 := (hb2.cell (World.block_lt_of_cell? _ _ hx2)).trans hx2; have hct2 := (zac HX2.out 0).trans rfl; clear hr2 hb2 hg2 hat2) | (at_builtin; refine Kd.R_append_rows k50 (w0 := (W.alloc (.cells #[.slice (some ⟨g, 0, none⟩) l.length c] 24))) (W.alloc (.cells #[.slice (some ⟨g, 0, none⟩) l.length c] 24)).heap.size rfl (.tmp 52) (.tmp 58) 38 50 (.agg #[.string ⟨#[]⟩, .int .i64 0]) 24 rfl Tryz.underlying38 info50 rfl (by decide) (by omega) v1 (ns.take i ++ [⟨s, n⟩]) (ns.drop i) _ _ _ (fun _ => True) (fun _ => False) rfl rfl HR2.out (Kd.C_below (HDC.out _ HCN.out) HB2.out) (fun _ _ h => h) (fun _ h => h.elim) (fun _ _ => trivial) HB2.out HB2.out.size (by simp only [List.length_append, List.length_take, List.length_drop, List.length_cons, List.length_nil]; omega) ?_; intro v3 w3 hr3 hb3 hg3 hat3; obtain ⟨A3, m3, c3, rfl⟩ := slice_any hr3; obtain ⟨hf3, ⟨u2, hu2⟩, ⟨u5, hu5⟩, hf5, hfin⟩ := HKK.out w3 _ _ (Below.trans HB.out (hb3.mono (by rw [World.size_alloc]; omega))) (Kd.zcw hr3 (by rw [World.size_alloc]; omega)); have hS5 := hfin now; rw [HSET.out _ (by rw [HIP.out])] at hS5; rw [← HLEN.out] at hS5; obtain ⟨hl4, hfl4, _, _, _, hnew⟩ := links_anew hS5 n HN0.out (by rw [HLEN.out]; exact HN1.out); rw [HLEN.out] at hnew; have HNEW := zaa.mk hnew; have HB3 := zaa.mk hb3; have HX3 := zaa.mk (zaD (zaD (zan HX.out hb3) (p := ⟨g, d.toNat * 6 + 2, none⟩) (by have := HGL.out; show _ ≠ g; omega) (.slice A3 m3 c3)) (p := ⟨g, d.toNat * 6 + 5, none⟩) (by have := HGL.out; show _ ≠ g; omega) (.int .i64 now)); have hct3 := (zac HX3.out 0).trans rfl; clear hr3 hb3 hg3 hat3 hfin hS5 hnew))
    go_end0
    have hbw : Below W.heap.size W w3 := Below.trans HB.out (HB3.out.mono (by rw [World.size_alloc]; omega))
    exact ⟨rfl, HNEW.out _, (((hbw.mono hbase).setCell HBG.out _).setCell HBG.out _).setCell HBG.out _, fun q hq hnq => ((Below.heap_setCell _ _ _ q (fun e => hnq (e ▸ HOG.out))).trans ((Below.heap_setCell _ _ _ q (fun e => hnq (e ▸ HOG.out))).trans (Below.heap_setCell _ _ _ q (fun e => hnq (e ▸ HOG.out))))).trans (hbw.block q hq)⟩
  ·have hge : decide ((i : Int) < (ns.length : Int)) = false := decide_eq_false (by omega)
   replace HI := zaa.mk (show i + 0 = putAt s ns by rw [← HI.out, List.drop_eq_nil_of_le (by omega)]; rfl)
   have HIP : zaa (putAt s ns = i) := ⟨by have := HI.out; omega⟩
   have HCPI : zaa (zaC.f k (ns.take i) = some (ns.take i)) := ⟨by have h := HCP.out; rwa [HIP.out] at h⟩
   have ht1 := nameCut_to A m ns i hi HM.out
   obtain ⟨A', c', hd1, hdc⟩ := nameCut_from A m ns i hi HM.out
   have HDC := zaa.mk hdc
   clear hdc
   go_wp2_with (first | (go_at_call 90; refine (copy_take k A m ns i hi HM.out HCPI.out _ HCN.out).mono ?_; rintro e' w1 ⟨v, rfl, hR, hb⟩; have HR1 := zaa.mk hR; have HB1 := zaa.mk hb; have HX1 := zaa.mk (zan HX.out hb); have hx21 := (hb.cell (World.block_lt_of_cell? _ _ hx2)).trans hx2; have hct1 := (zac HX1.out 0).trans rfl; clear hR hb) | (at_builtin; refine Kd.R_append k50 (w0 := (W.alloc (.cells #[.slice (some ⟨g, 0, none⟩) l.length c] 24))) (W.alloc (.cells #[.slice (some ⟨g, 0, none⟩) l.length c] 24)).heap.size rfl (.tmp 45) (.tmp 49) 38 50 (.agg #[.string ⟨#[]⟩, .int .i64 0]) 24 rfl Tryz.underlying38 info50 rfl (by decide) (by omega) v (ns.take i) ⟨s, n⟩ [.string s, .int .i64 n] (fun _ => True) (fun _ => False) rfl rfl (k50_mkM _ _ _ ⟨s, n⟩) (fun _ hk => hk.elim) (fun _ _ => trivial) HR1.out HB1.out HB1.out.size (by rw [List.length_take]; omega) ?_; intro v1 w2 hr2 hb2 hg2 hat2; have HR2 := zaa.mk hr2; have HB2 := zaa.mk hb2; have HX2 := zaa.mk (zan HX.out hb2); have hx22 := (hb2.cell (World.block_lt_of_cell? _ _ hx2)).trans hx2; have hct2 := (zac HX2.out 0).trans rfl; clear hr2 hb2 hg2 hat2) | (at_builtin; refine Kd.R_append_rows k50 (w0 := (W.alloc (.cells #[.slice (some ⟨g, 0, none⟩) l.length c] 24))) (W.alloc (.cells #[.slice (some ⟨g, 0, none⟩) l.length c] 24)).heap.size rfl (.tmp 52) (.tmp 58) 38 50 (.agg #[.string ⟨#[]⟩, .int .i64 0]) 24 rfl Tryz.underlying38 info50 rfl (by decide) (by omega) v1 (ns.take i ++ [⟨s, n⟩]) (ns.drop i) _ _ _ (fun _ => True) (fun _ => False) rfl rfl HR2.out (Kd.C_below (HDC.out _ HCN.out) HB2.out) (fun _ _ h => h) (fun _ h => h.elim) (fun _ _ => trivial) HB2.out HB2.out.size (by simp only [List.length_append, List.length_take, List.length_drop, List.length_cons, List.length_nil]; omega) ?_; intro v3 w3 hr3 hb3 hg3 hat3; obtain ⟨A3, m3, c3, rfl⟩ := slice_any hr3; obtain ⟨hf3, ⟨u2, hu2⟩, ⟨u5, hu5⟩, hf5, hfin⟩ := HKK.out w3 _ _ (Below.trans HB.out (hb3.mono (by rw [World.size_alloc]; omega))) (Kd.zcw hr3 (by rw [World.size_alloc]; omega)); have hS5 := hfin now; rw [HSET.out _ (by rw [HIP.out])] at hS5; rw [← HLEN.out] at hS5; obtain ⟨hl4, hfl4, _, _, _, hnew⟩ := links_anew hS5 n HN0.out (by rw [HLEN.out]; exact HN1.out); rw [HLEN.out] at hnew; have HNEW := zaa.mk hnew; have HB3 := zaa.mk hb3; have HX3 := zaa.mk (zaD (zaD (zan HX.out hb3) (p := ⟨g, d.toNat * 6 + 2, none⟩) (by have := HGL.out; show _ ≠ g; omega) (.slice A3 m3 c3)) (p := ⟨g, d.toNat * 6 + 5, none⟩) (by have := HGL.out; show _ ≠ g; omega) (.int .i64 now)); have hct3 := (zac HX3.out 0).trans rfl; clear hr3 hb3 hg3 hat3 hfin hS5 hnew))
   go_end0
   have hbw : Below W.heap.size W w3 := Below.trans HB.out (HB3.out.mono (by rw [World.size_alloc]; omega))
   exact ⟨rfl, HNEW.out _, (((hbw.mono hbase).setCell HBG.out _).setCell HBG.out _).setCell HBG.out _, fun q hq hnq => ((Below.heap_setCell _ _ _ q (fun e => hnq (e ▸ HOG.out))).trans ((Below.heap_setCell _ _ _ q (fun e => hnq (e ▸ HOG.out))).trans (Below.heap_setCell _ _ _ q (fun e => hnq (e ▸ HOG.out))))).trans (hbw.block q hq)⟩
def za6.f (l0_0 : List (S40)) (a1 : Int) : Option (Bool) := if 0 ≤ a1 then (if a1 < (l0_0.length : Int) then (some (((zah l0_0 a1).f0) == 2)) else (none)) else (none)
set_option maxHeartbeats 8000000 in
set_option maxRecDepth 100000 in
theorem za6.calls (A0_0 : Option Addr) (c0_0 : Nat) (l0_0 : List (S40)) (a1 : Int) (r : Bool) (w : World) (hr0_0 : Kd.C k40 w A0_0 l0_0.length l0_0) (hc0_0 : l0_0.length ≤ c0_0) (h : za6.f l0_0 a1 = some r) :
  Calls Tryz.prog 63 #[.agg #[.slice A0_0 l0_0.length c0_0], .int .i64 a1] w fun e w' => e = .returned (.bool r) ∧ Below w.heap.size w w' := by
 have hu24 := Tryz.underlying24
 have HR0_0 := zaa.mk hr0_0
 have HC0_0 := zaa.mk hc0_0
 clear hr0_0 hc0_0
 have HB := zaa.mk (Below.refl w.heap.size w)
 have H : (if 0 ≤ a1 then (if a1 < (l0_0.length : Int) then (some (((zah l0_0 a1).f0) == 2)) else (none)) else (none)) = some r := h
 clear h
 by_cases c3 : 0 ≤ a1
 ·rw [if_pos c3] at H
  have c3b0 : decide (0 ≤ a1) = true := decide_eq_true c3
  clear c3
  by_cases c4 : a1 < (l0_0.length : Int)
  ·rw [if_pos c4] at H
   have c4b0 : decide (a1 < (l0_0.length : Int)) = true := decide_eq_true c4
   clear c4
   obtain rfl := Option.some.inj H
   go_enter Tryz.func63, Tryz.ntmps63
   go_wp2_with (first | ((with_reducible refine zaS (N := 2) rfl ?_); refine zaG ?hg (N := 2) ?hd (cs := #[.slice A0_0 l0_0.length c0_0]) (t := 24) ?hr ?_; (case hd => rfl); (case hg => rfl); (case hr => first | (go_simp; done) | (go_simp; rfl)); intro gb177 hg w5 hbox hb; have n0_ := zaa.mk (zam (by repeat (first | (with_reducible first | exact HB.out | apply zad | apply zab | apply zae) | exact HB.out)) hb); have n1_ := zaa.mk (hbox); have n2_ := zaa.mk ((by rw [hg]; exact (zar (by repeat (first | (with_reducible first | exact HB.out | apply zad | apply zab | apply zae) | exact HB.out))) : w.heap.size ≤ gb177)); have n3_ := zaa.mk ((by rw [hg]; exact (zar (by repeat (first | (with_reducible first | exact HB.out | apply zad | apply zab | apply zae) | exact HB.out))) : w.heap.size ≤ gb177)); clear HB; have HB := n0_; have BK177 := n1_; have GW177 := n2_; have GE177 := n3_; clear n0_ n1_ n2_ n3_; clear hb hbox hg; have hcz6_0 : w5.cell? ⟨gb177, 0, none⟩ = some (.slice A0_0 l0_0.length c0_0) := (zac BK177.out 0).trans rfl; have hfz6_0 := zaf BK177.out 0; have p178 : 0 ≤ (a1 : Int) := of_decide_eq_true (by first | (with_reducible assumption) | assumption); have q178 : a1 < (l0_0.length : Int) := of_decide_eq_true (by first | (with_reducible assumption) | assumption); obtain ⟨ad178, A178_1, c178_1, A178_2, c178_2, e178, hx178_0, hx178_1, hx178_2, hx178_3, hx178_4, hx178_5, hl178_1, hi178_1, hl178_2, hi178_2⟩ := zbc HR0_0.out a1 p178 q178; cases e178; replace hx178_0 := (HB.out.cell (World.block_lt_of_cell? w _ hx178_0)).trans hx178_0; replace hx178_1 := (HB.out.cell (World.block_lt_of_cell? w _ hx178_1)).trans hx178_1; replace hx178_2 := (HB.out.cell (World.block_lt_of_cell? w _ hx178_2)).trans hx178_2; replace hx178_3 := (HB.out.cell (World.block_lt_of_cell? w _ hx178_3)).trans hx178_3; replace hx178_4 := (HB.out.cell (World.block_lt_of_cell? w _ hx178_4)).trans hx178_4; replace hx178_5 := (HB.out.cell (World.block_lt_of_cell? w _ hx178_5)).trans hx178_5; have HR178_1 := zaa.mk hi178_1; have HC178_1 := zaa.mk hl178_1; clear hi178_1 hl178_1; have HR178_2 := zaa.mk hi178_2; have HC178_2 := zaa.mk hl178_2; clear hi178_2 hl178_2; replace p178 := eq_true p178; replace q178 := eq_true q178))
   go_ret
   exact ⟨by first | rfl | (simp [zaw, zav] <;> rfl) | (simp [*, zaw, zav] <;> rfl), by repeat (first | (with_reducible first | exact HB.out | apply zad | apply zab | apply zae | refine zal ?_ GE177.out) | exact HB.out)⟩
  ·rw [if_neg c4] at H
   exact absurd H (by simp)
 ·rw [if_neg c3] at H
  exact absurd H (by simp)
theorem is_f (l : List S40) (n : Int) : zbq.f l n = some (hasB l n) := by
 unfold zbq.f hasB
 by_cases h1 : n ≥ 0
 ·rw [if_pos h1, decide_eq_true (show 0 ≤ n from h1)]
  by_cases h2 : n < (l.length : Int)
  ·rw [if_pos h2, if_pos h1, decide_eq_true h2]; simp
  ·rw [if_neg h2, decide_eq_false h2]; simp
 ·rw [if_neg h1, decide_eq_false (show ¬ 0 ≤ n from h1)]; simp
theorem zaW {W : World} {g : Nat} {a : Value} {t : TypeId} (h : W.heap[g]? = some (.cells #[a] t (0, 0))) : W.cell? ⟨g, 0, none⟩ = some a := (zac h 0).trans rfl
theorem drawn_belowL {w w' : World} (h : zaQ w w') : Below w.heap.size w w' := by
 obtain ⟨nd, rfl⟩ := h
 exact zab (Below.refl _ _) nd
def entryE (k : Nat) (l : List S40) (d : Int) (s : ByteArray) : Option Int :=
 (zat.f k s).bind fun e => if e = 0 then zbN.f k l d s else some e
def refLinkE (k : Nat) (l : List S40) (n d : Int) (s : ByteArray) : Option Int :=
 (za6.f l n).bind fun b => if b = true then some 63 else (za6.f l d).bind fun b2 => if b2 = true then entryE k l d s else some 54
structure PutG (k : Nat) (l : List S40) (d : Int) (s : ByteArray) (n : Int) : Prop where
 d0 : 0 ≤ d
 d1 : d < (l.length : Int)
 n0 : 0 < n
 n1 : n < (l.length : Int)
 len : (zah l d).f2.length ≤ 1000000
 copy : zaC.f k ((zah l d).f2.take (putAt s (zah l d).f2)) = some ((zah l d).f2.take (putAt s (zah l d).f2))
set_option maxHeartbeats 8000000 in
set_option maxRecDepth 100000 in
theorem gangwayref13_Link.no (k : Nat) (A0 : Option Addr) (c0 : Nat) (l : List S40) (n d : Int) (s : ByteArray) (now : Int) (e : Int) (w : World) (hr0 : Kd.C k40 w A0 l.length l) (hc0 : l.length ≤ c0) (hE : refLinkE k l n d s = some e) (hz : e ≠ 0) :
  Calls Tryz.prog 30 #[.agg #[.slice A0 l.length c0], .int .i64 n, .int .i64 d, .string s, .int .i64 now] w fun e' w' => e' = .returned (.tuple #[.agg #[.slice A0 l.length c0], .int .i64 e]) ∧ Below w.heap.size w w' := by
 have HR0 := zaa.mk hr0
 have HC0 := zaa.mk hc0
 have hut := Tryz.underlying24
 have HB := zaa.mk (zad (zad (Below.refl w.heap.size w) (.cells #[.slice A0 l.length c0] 24)) (.cells #[.slice none 0 0] 24))
 have HT := zaa.mk (zai (zbb w (.cells #[.slice A0 l.length c0] 24)) (.cells #[.slice none 0 0] 24))
 have HV := zaa.mk (zbb (w.alloc (.cells #[.slice A0 l.length c0] 24)) (.cells #[.slice none 0 0] 24))
 rw [World.size_alloc] at HV
 clear hr0 hc0
 unfold refLinkE at hE
 obtain ⟨b, hb1, hE⟩ := Option.bind_eq_some_iff.mp hE
 have HD1 := zaa.mk hb1
 clear hb1
 cases b with
 | true =>
  have h63 := Option.some.inj hE
  subst h63
  clear hE
  have ht0 := zaW HT.out
  have hv0 := zaW HV.out
  have hvf := zaf HV.out 0
  go_enter Tryz.func30, Tryz.ntmps30
  go_wp2_with (first | fail)
  refine (za6.calls A0 c0 l n true _ (Kd.C_below HR0.out HB.out) HC0.out HD1.out).mono ?_
  rintro e' w1 ⟨rfl, hb⟩
  clear ht0 hv0 hvf
  replace HT := zaa.mk (zan (by repeat (first | exact HT.out | apply zaj | apply zai | apply zak)) hb)
  replace HV := zaa.mk (zan (by repeat (first | exact HV.out | apply zaj | apply zai | apply zak)) hb)
  replace HB := zaa.mk (zam (by repeat (first | exact HB.out | apply zad | apply zab | apply zae | apply zaB)) hb)
  clear hb
  have ht0 := zaW HT.out
  have hv0 := zaW HV.out
  have hvf := zaf HV.out 0
  go_wp2_with fail
  refine bodyPost_ret (zbl rfl _ _ (w.heap.size + 1) 24 #[.slice A0 l.length c0] (0, 0) _ rfl (zaP HV.out 0 _ rfl) Tryz.underlying24 rfl (by kernel_rfl)) rfl ?_
  have hbz := HB.out.setCell (p := ⟨w.heap.size + 1, 0, none⟩) (by show _ ≤ _ + 1; omega) (.slice A0 l.length c0)
  exact ⟨rfl, hbz⟩
 | false =>
  obtain ⟨b2, hb2, hE⟩ := Option.bind_eq_some_iff.mp (show (za6.f l d).bind _ = some e from hE)
  have HD2 := zaa.mk hb2
  clear hb2
  cases b2 with
  | false =>
   have h63 := Option.some.inj hE
   subst h63
   clear hE
   have ht0 := zaW HT.out
   have hv0 := zaW HV.out
   have hvf := zaf HV.out 0
   go_enter Tryz.func30, Tryz.ntmps30
   go_wp2_with (first | fail)
   refine (za6.calls A0 c0 l n false _ (Kd.C_below HR0.out HB.out) HC0.out HD1.out).mono ?_
   rintro e' w1 ⟨rfl, hb⟩
   clear ht0 hv0 hvf
   replace HT := zaa.mk (zan (by repeat (first | exact HT.out | apply zaj | apply zai | apply zak)) hb)
   replace HV := zaa.mk (zan (by repeat (first | exact HV.out | apply zaj | apply zai | apply zak)) hb)
   replace HB := zaa.mk (zam (by repeat (first | exact HB.out | apply zad | apply zab | apply zae | apply zaB)) hb)
   clear hb
   have ht0 := zaW HT.out
   have hv0 := zaW HV.out
   have hvf := zaf HV.out 0
   go_wp2_with (first | fail)
   refine (za6.calls A0 c0 l d false _ (Kd.C_below HR0.out HB.out) HC0.out HD2.out).mono ?_
   rintro e' w2 ⟨rfl, hb⟩
   clear ht0 hv0 hvf
   replace HT := zaa.mk (zan (by repeat (first | exact HT.out | apply zaj | apply zai | apply zak)) hb)
   replace HV := zaa.mk (zan (by repeat (first | exact HV.out | apply zaj | apply zai | apply zak)) hb)
   replace HB := zaa.mk (zam (by repeat (first | exact HB.out | apply zad | apply zab | apply zae | apply zaB)) hb)
   clear hb
   have ht0 := zaW HT.out
   have hv0 := zaW HV.out
   have hvf := zaf HV.out 0
   go_wp2_with fail
   refine bodyPost_ret (zbl rfl _ _ (w.heap.size + 1) 24 #[.slice A0 l.length c0] (0, 0) _ rfl (zaP HV.out 0 _ rfl) Tryz.underlying24 rfl (by kernel_rfl)) rfl ?_
   have hbz := HB.out.setCell (p := ⟨w.heap.size + 1, 0, none⟩) (by show _ ≤ _ + 1; omega) (.slice A0 l.length c0)
   exact ⟨rfl, hbz⟩
  | true =>
   obtain ⟨e1, hn1, hE⟩ := Option.bind_eq_some_iff.mp (show entryE k l d s = some e from hE)
   have HNM := zaa.mk hn1
   clear hn1
   by_cases z : e1 = 0
   ·rw [if_pos z] at hE
    subst z
    have HEN := zaa.mk hE
    clear hE
    have Z2 : (e != 0) = true := by simpa using hz
    have ht0 := zaW HT.out
    have hv0 := zaW HV.out
    have hvf := zaf HV.out 0
    go_enter Tryz.func30, Tryz.ntmps30
    go_wp2_with (first | fail)
    refine (za6.calls A0 c0 l n false _ (Kd.C_below HR0.out HB.out) HC0.out HD1.out).mono ?_
    rintro e' w1 ⟨rfl, hb⟩
    clear ht0 hv0 hvf
    replace HT := zaa.mk (zan (by repeat (first | exact HT.out | apply zaj | apply zai | apply zak)) hb)
    replace HV := zaa.mk (zan (by repeat (first | exact HV.out | apply zaj | apply zai | apply zak)) hb)
    replace HB := zaa.mk (zam (by repeat (first | exact HB.out | apply zad | apply zab | apply zae | apply zaB)) hb)
    clear hb
    have ht0 := zaW HT.out
    have hv0 := zaW HV.out
    have hvf := zaf HV.out 0
    go_wp2_with (first | fail)
    refine (za6.calls A0 c0 l d true _ (Kd.C_below HR0.out HB.out) HC0.out HD2.out).mono ?_
    rintro e' w2 ⟨rfl, hb⟩
    clear ht0 hv0 hvf
    replace HT := zaa.mk (zan (by repeat (first | exact HT.out | apply zaj | apply zai | apply zak)) hb)
    replace HV := zaa.mk (zan (by repeat (first | exact HV.out | apply zaj | apply zai | apply zak)) hb)
    replace HB := zaa.mk (zam (by repeat (first | exact HB.out | apply zad | apply zab | apply zae | apply zaB)) hb)
    clear hb
    have ht0 := zaW HT.out
    have hv0 := zaW HV.out
    have hvf := zaf HV.out 0
    go_wp2_with fail
    refine (zat.calls k s 0 _ HNM.out).mono ?_
    rintro e' w3 ⟨rfl, hd⟩
    have hb := drawn_belowL hd
    clear hd
    clear ht0 hv0 hvf
    replace HT := zaa.mk (zan (by repeat (first | exact HT.out | apply zaj | apply zai | apply zak)) hb)
    replace HV := zaa.mk (zan (by repeat (first | exact HV.out | apply zaj | apply zai | apply zak)) hb)
    replace HB := zaa.mk (zam (by repeat (first | exact HB.out | apply zad | apply zab | apply zae | apply zaB)) hb)
    clear hb
    have ht0 := zaW HT.out
    have hv0 := zaW HV.out
    have hvf := zaf HV.out 0
    go_wp2_with (first | fail)
    refine (zbN.calls k A0 c0 l d s e _ (Kd.C_below HR0.out HB.out) HC0.out HEN.out).mono ?_
    rintro e' w4 ⟨rfl, hb⟩
    clear ht0 hv0 hvf
    replace HT := zaa.mk (zan (by repeat (first | exact HT.out | apply zaj | apply zai | apply zak)) hb)
    replace HV := zaa.mk (zan (by repeat (first | exact HV.out | apply zaj | apply zai | apply zak)) hb)
    replace HB := zaa.mk (zam (by repeat (first | exact HB.out | apply zad | apply zab | apply zae | apply zaB)) hb)
    clear hb
    have ht0 := zaW HT.out
    have hv0 := zaW HV.out
    have hvf := zaf HV.out 0
    go_wp2_with fail
    refine bodyPost_ret (zbl rfl _ _ (w.heap.size + 1) 24 #[.slice A0 l.length c0] (0, 0) _ rfl (zaP HV.out 0 _ rfl) Tryz.underlying24 rfl (by kernel_rfl)) rfl ?_
    have hbz := HB.out.setCell (p := ⟨w.heap.size + 1, 0, none⟩) (by show _ ≤ _ + 1; omega) (.slice A0 l.length c0)
    exact ⟨rfl, hbz⟩
   ·rw [if_neg z] at hE
    obtain rfl := Option.some.inj hE
    clear hE
    have Z1 : (e1 == 0) = false := by simpa using z
    have Z2 : (e1 != 0) = true := by simpa using z
    have ht0 := zaW HT.out
    have hv0 := zaW HV.out
    have hvf := zaf HV.out 0
    go_enter Tryz.func30, Tryz.ntmps30
    go_wp2_with (first | fail)
    refine (za6.calls A0 c0 l n false _ (Kd.C_below HR0.out HB.out) HC0.out HD1.out).mono ?_
    rintro e' w1 ⟨rfl, hb⟩
    clear ht0 hv0 hvf
    replace HT := zaa.mk (zan (by repeat (first | exact HT.out | apply zaj | apply zai | apply zak)) hb)
    replace HV := zaa.mk (zan (by repeat (first | exact HV.out | apply zaj | apply zai | apply zak)) hb)
    replace HB := zaa.mk (zam (by repeat (first | exact HB.out | apply zad | apply zab | apply zae | apply zaB)) hb)
    clear hb
    have ht0 := zaW HT.out
    have hv0 := zaW HV.out
    have hvf := zaf HV.out 0
    go_wp2_with (first | fail)
    refine (za6.calls A0 c0 l d true _ (Kd.C_below HR0.out HB.out) HC0.out HD2.out).mono ?_
    rintro e' w2 ⟨rfl, hb⟩
    clear ht0 hv0 hvf
    replace HT := zaa.mk (zan (by repeat (first | exact HT.out | apply zaj | apply zai | apply zak)) hb)
    replace HV := zaa.mk (zan (by repeat (first | exact HV.out | apply zaj | apply zai | apply zak)) hb)
    replace HB := zaa.mk (zam (by repeat (first | exact HB.out | apply zad | apply zab | apply zae | apply zaB)) hb)
    clear hb
    have ht0 := zaW HT.out
    have hv0 := zaW HV.out
    have hvf := zaf HV.out 0
    go_wp2_with fail
    refine (zat.calls k s e1 _ HNM.out).mono ?_
    rintro e' w3 ⟨rfl, hd⟩
    have hb := drawn_belowL hd
    clear hd
    clear ht0 hv0 hvf
    replace HT := zaa.mk (zan (by repeat (first | exact HT.out | apply zaj | apply zai | apply zak)) hb)
    replace HV := zaa.mk (zan (by repeat (first | exact HV.out | apply zaj | apply zai | apply zak)) hb)
    replace HB := zaa.mk (zam (by repeat (first | exact HB.out | apply zad | apply zab | apply zae | apply zaB)) hb)
    clear hb
    have ht0 := zaW HT.out
    have hv0 := zaW HV.out
    have hvf := zaf HV.out 0
    go_wp2_with fail
    refine bodyPost_ret (zbl rfl _ _ (w.heap.size + 1) 24 #[.slice A0 l.length c0] (0, 0) _ rfl (zaP HV.out 0 _ rfl) Tryz.underlying24 rfl (by kernel_rfl)) rfl ?_
    have hbz := HB.out.setCell (p := ⟨w.heap.size + 1, 0, none⟩) (by show _ ≤ _ + 1; omega) (.slice A0 l.length c0)
    exact ⟨rfl, hbz⟩
set_option maxHeartbeats 8000000 in
set_option maxRecDepth 100000 in
theorem gangwayref13_Link.ok (k : Nat) (A0 : Option Addr) (c0 : Nat) (l : List S40) (n d : Int) (s : ByteArray) (now : Int) (r : List S40) (w : World) (hr0 : Kd.C k40 w A0 l.length l) (hc0 : l.length ≤ c0) (hE : refLinkE k l n d s = some 0) (hcp : za1.f k l = some l) (hg : PutG k l d s n) (hr : r = zcs (putN l d s n now) n 1) :
  Calls Tryz.prog 30 #[.agg #[.slice A0 l.length c0], .int .i64 n, .int .i64 d, .string s, .int .i64 now] w fun e' w' => ∃ (A : Option Addr) (c : Nat), e' = .returned (.tuple #[.agg #[.slice A r.length c], .int .i64 0]) ∧ Kd.S k40 40 w' w.heap.size (fun _ => True) (.slice A r.length c) r ∧ Below w.heap.size w w' := by
 have HR0 := zaa.mk hr0
 have HC0 := zaa.mk hc0
 have hut := Tryz.underlying24
 have HB := zaa.mk (zad (zad (Below.refl w.heap.size w) (.cells #[.slice A0 l.length c0] 24)) (.cells #[.slice none 0 0] 24))
 have HT := zaa.mk (zai (zbb w (.cells #[.slice A0 l.length c0] 24)) (.cells #[.slice none 0 0] 24))
 have HV := zaa.mk (zbb (w.alloc (.cells #[.slice A0 l.length c0] 24)) (.cells #[.slice none 0 0] 24))
 rw [World.size_alloc] at HV
 clear hr0 hc0
 unfold refLinkE at hE
 obtain ⟨b, hb1, hE⟩ := Option.bind_eq_some_iff.mp hE
 have HD1 := zaa.mk hb1
 clear hb1
 cases b with
 | true => exact absurd (Option.some.inj (show some (63 : Int) = some 0 from hE)) (by decide)
 | false =>
  rw [if_neg (by decide)] at hE
  obtain ⟨b2, hb2, hE⟩ := Option.bind_eq_some_iff.mp hE
  have HD2 := zaa.mk hb2
  clear hb2
  cases b2 with
  | false => rw [if_neg (by decide)] at hE; exact absurd (Option.some.inj hE) (by decide)
  | true =>
   rw [if_pos rfl] at hE
   unfold entryE at hE
   obtain ⟨e1, hn1, hE⟩ := Option.bind_eq_some_iff.mp hE
   have HNM := zaa.mk hn1
   clear hn1
   by_cases z : e1 = 0
   ·rw [if_pos z] at hE
    subst z
    have HEN := zaa.mk hE
    clear hE
    have HCP := zaa.mk hcp
    have HG := zaa.mk hg
    have hlr : r.length = l.length := by rw [hr]; unfold zcs putN; rw [List.length_set, List.length_set]
    rw [hlr]
    have HRR := zaa.mk hr
    clear hcp hg hr hlr
    have ht0 := zaW HT.out
    have hv0 := zaW HV.out
    have hvf := zaf HV.out 0
    go_enter Tryz.func30, Tryz.ntmps30
    go_wp2_with (first | fail)
    refine (za6.calls A0 c0 l n false _ (Kd.C_below HR0.out HB.out) HC0.out HD1.out).mono ?_
    rintro e' w1 ⟨rfl, hb⟩
    clear ht0 hv0 hvf
    replace HT := zaa.mk (zan (by repeat (first | exact HT.out | apply zaj | apply zai | apply zak)) hb)
    replace HV := zaa.mk (zan (by repeat (first | exact HV.out | apply zaj | apply zai | apply zak)) hb)
    replace HB := zaa.mk (zam (by repeat (first | exact HB.out | apply zad | apply zab | apply zae | apply zaB)) hb)
    clear hb
    have ht0 := zaW HT.out
    have hv0 := zaW HV.out
    have hvf := zaf HV.out 0
    go_wp2_with (first | fail)
    refine (za6.calls A0 c0 l d true _ (Kd.C_below HR0.out HB.out) HC0.out HD2.out).mono ?_
    rintro e' w2 ⟨rfl, hb⟩
    clear ht0 hv0 hvf
    replace HT := zaa.mk (zan (by repeat (first | exact HT.out | apply zaj | apply zai | apply zak)) hb)
    replace HV := zaa.mk (zan (by repeat (first | exact HV.out | apply zaj | apply zai | apply zak)) hb)
    replace HB := zaa.mk (zam (by repeat (first | exact HB.out | apply zad | apply zab | apply zae | apply zaB)) hb)
    clear hb
    have ht0 := zaW HT.out
    have hv0 := zaW HV.out
    have hvf := zaf HV.out 0
    go_wp2_with fail
    refine (zat.calls k s 0 _ HNM.out).mono ?_
    rintro e' w3 ⟨rfl, hd⟩
    have hb := drawn_belowL hd
    clear hd
    clear ht0 hv0 hvf
    replace HT := zaa.mk (zan (by repeat (first | exact HT.out | apply zaj | apply zai | apply zak)) hb)
    replace HV := zaa.mk (zan (by repeat (first | exact HV.out | apply zaj | apply zai | apply zak)) hb)
    replace HB := zaa.mk (zam (by repeat (first | exact HB.out | apply zad | apply zab | apply zae | apply zaB)) hb)
    clear hb
    have ht0 := zaW HT.out
    have hv0 := zaW HV.out
    have hvf := zaf HV.out 0
    go_wp2_with (first | fail)
    refine (zbN.calls k A0 c0 l d s 0 _ (Kd.C_below HR0.out HB.out) HC0.out HEN.out).mono ?_
    rintro e' w4 ⟨rfl, hb⟩
    clear ht0 hv0 hvf
    replace HT := zaa.mk (zan (by repeat (first | exact HT.out | apply zaj | apply zai | apply zak)) hb)
    replace HV := zaa.mk (zan (by repeat (first | exact HV.out | apply zaj | apply zai | apply zak)) hb)
    replace HB := zaa.mk (zam (by repeat (first | exact HB.out | apply zad | apply zab | apply zae | apply zaB)) hb)
    clear hb
    have ht0 := zaW HT.out
    have hv0 := zaW HV.out
    have hvf := zaf HV.out 0
    go_wp2_with fail
    refine (za1.calls k A0 c0 l l _ (Kd.C_below HR0.out HB.out) HC0.out HCP.out).mono ?_
    rintro e' w5 ⟨v, rfl, hS, hb⟩
    obtain ⟨g, cu, rfl, hgN, hgl, _⟩ := Kd.S_form hS (by have := HG.out.d1; have := HG.out.d0; omega)
    have HS := zaa.mk (Kd.zbD (Kd.zbt (ok' := fun q => q ≠ w.heap.size ∧ q ≠ w.heap.size + 1 ∧ q < w5.heap.size) (Kd.S_bound hS) (fun q hq => ⟨by have := zaO HT.out; have := hq.2.1; omega, by have := zaO HV.out; have := hq.2.1; omega, hq.2.2.1⟩)) HB.out.size)
    clear hS hgN hgl
    clear ht0 hv0 hvf
    replace HT := zaa.mk (zan (by repeat (first | exact HT.out | apply zaj | apply zai | apply zak)) hb)
    replace HV := zaa.mk (zan (by repeat (first | exact HV.out | apply zaj | apply zai | apply zak)) hb)
    replace HB := zaa.mk (zam (by repeat (first | exact HB.out | apply zad | apply zab | apply zae | apply zaB)) hb)
    clear hb
    have HLT : zaa (w.heap.size < w5.heap.size ∧ w.heap.size + 1 < w5.heap.size) := ⟨zaO HT.out, zaO HV.out⟩
    go_upto_region 11 with fail
    replace HT := zaa.mk (zai HT.out (.cells #[.slice (some ⟨g, 0, none⟩) l.length cu] 24))
    replace HV := zaa.mk (zai HV.out (.cells #[.slice (some ⟨g, 0, none⟩) l.length cu] 24))
    replace HB := zaa.mk (zad HB.out (.cells #[.slice (some ⟨g, 0, none⟩) l.length cu] 24))
    replace HS := zaa.mk (Kd.za4 HS.out (zad (Below.refl _ _) (.cells #[.slice (some ⟨g, 0, none⟩) l.length cu] 24)))
    have HU := zaa.mk (zbb w5 (.cells #[.slice (some ⟨g, 0, none⟩) l.length cu] 24))
    have hgt : w.heap.size < w5.heap.size ∧ w.heap.size + 1 < w5.heap.size := HLT.out
    obtain ⟨g6, hg6⟩ : ∃ g6, g6 = w5.heap.size := ⟨_, rfl⟩
    rw [← hg6] at HU HS hgt ⊢
    clear hg6 HLT
    have ht0 := zaW HT.out
    have hv0 := zaW HV.out
    have hvf := zaf HV.out 0
    have hu0 := zaW HU.out
    have huf := zaf HU.out 0
    go_wp2_with fail
    refine (gangwayref13_put.calls k _ w.heap.size g cu l.length (fun q => q ≠ w.heap.size ∧ q ≠ w.heap.size + 1 ∧ q ≠ g6) l rfl d s n now (Kd.zbt HS.out (fun q hq => ⟨hq.1, hq.2.1, by omega⟩)) HG.out.d0 HG.out.d1 HG.out.n0 HG.out.n1 (fun q hq => ⟨by have := zaO HT.out; omega, by have := zaO HV.out; omega, by have := zaO HU.out; omega⟩) HB.out.size HG.out.len HG.out.copy).mono ?_
    rintro e' w7 ⟨rfl, hS7, hb7, ho7⟩
    clear ht0 hv0 hvf hu0 huf
    have HT7 := zaa.mk ((ho7 w.heap.size (zaO HT.out) (by simp)).trans HT.out)
    have HV7 := zaa.mk ((ho7 (w.heap.size + 1) (zaO HV.out) (by simp)).trans HV.out)
    have HU7 := zaa.mk ((ho7 g6 (zaO HU.out) (by simp)).trans HU.out)
    have HB7 := zaa.mk (HB.out.trans hb7)
    have HS7 := zaa.mk hS7
    clear ho7 hb7 hS7
    have hu7 := zaW HU7.out
    have hv7 := zaW HV7.out
    have hvf7 := zaf HV7.out 0
    go_wp2_with fail
    refine bodyPost_ret (zbl rfl _ _ (w.heap.size + 1) 24 #[.slice (some ⟨g, 0, none⟩) l.length cu] (0, 0) _ rfl (zaP HV7.out 0 _ rfl) Tryz.underlying24 rfl (by kernel_rfl)) rfl ?_
    have hs := Kd.S_set HS7.out HV7.out (by decide) 0 (.slice (some ⟨g, 0, none⟩) l.length cu)
    rw [← HRR.out] at hs
    have hlr : r.length = l.length := by rw [HRR.out]; unfold zcs putN; rw [List.length_set, List.length_set]
    exact ⟨_, _, rfl, Kd.zbt hs (fun _ _ => trivial), HB7.out.setCell (p := ⟨w.heap.size + 1, 0, none⟩) (by show _ ≤ _ + 1; omega) _⟩
   ·rw [if_neg z] at hE
    exact absurd (Option.some.inj hE) z
def za5.f (l0_0 : List (S40)) (a1 : Int) : Option (Int) := if 0 ≤ a1 then (if a1 < (l0_0.length : Int) then (if ((zah l0_0 a1).f0) = 2 then (some 31) else (if ((zah l0_0 a1).f0) = 3 then (some 28) else (some 0))) else (none)) else (none)
set_option maxHeartbeats 8000000 in
set_option maxRecDepth 100000 in
theorem za5.calls (A0_0 : Option Addr) (c0_0 : Nat) (l0_0 : List (S40)) (a1 : Int) (r : Int) (w : World) (hr0_0 : Kd.C k40 w A0_0 l0_0.length l0_0) (hc0_0 : l0_0.length ≤ c0_0) (h : za5.f l0_0 a1 = some r) :
  Calls Tryz.prog 82 #[.agg #[.slice A0_0 l0_0.length c0_0], .int .i64 a1] w fun e w' => e = .returned (.int .i64 r) ∧ Below w.heap.size w w' := by
 have hu24 := Tryz.underlying24
 have HR0_0 := zaa.mk hr0_0
 have HC0_0 := zaa.mk hc0_0
 clear hr0_0 hc0_0
 have HB := zaa.mk (Below.refl w.heap.size w)
 have H : (if 0 ≤ a1 then (if a1 < (l0_0.length : Int) then (if ((zah l0_0 a1).f0) = 2 then (some 31) else (if ((zah l0_0 a1).f0) = 3 then (some 28) else (some 0))) else (none)) else (none)) = some r := h
 clear h
 by_cases c3 : 0 ≤ a1
 focus
  rw [if_pos c3] at H
  have c3b0 : decide (0 ≤ a1) = true := decide_eq_true c3
  clear c3
  by_cases c4 : a1 < (l0_0.length : Int)
  focus
   rw [if_pos c4] at H
   have c4b0 : decide (a1 < (l0_0.length : Int)) = true := decide_eq_true c4
   clear c4
   by_cases c5 : ((zah l0_0 a1).f0) = 2
   focus
    rw [if_pos c5] at H
    have c5b0 : (((zah l0_0 a1).f0) == 2) = true := beq_iff_eq.mpr c5
    have c5b1 : (((zah l0_0 a1).f0) != 2) = false := bne_eq_false_iff_eq.mpr c5
    clear c5
    obtain rfl := Option.some.inj H
   rotate_left 1
   focus
    rw [if_neg c5] at H
    have c5b0 : (((zah l0_0 a1).f0) == 2) = false := beq_eq_false_iff_ne.mpr c5
    have c5b1 : (((zah l0_0 a1).f0) != 2) = true := bne_iff_ne.mpr c5
    by_cases c8 : ((zah l0_0 a1).f0) = 3
    focus
     rw [if_pos c8] at H
     have c8b0 : (((zah l0_0 a1).f0) == 3) = true := beq_iff_eq.mpr c8
     have c8b1 : (((zah l0_0 a1).f0) != 3) = false := bne_eq_false_iff_eq.mpr c8
     clear c8
     obtain rfl := Option.some.inj H
    rotate_left 1
    focus
     rw [if_neg c8] at H
     have c8b0 : (((zah l0_0 a1).f0) == 3) = false := beq_eq_false_iff_ne.mpr c8
     have c8b1 : (((zah l0_0 a1).f0) != 3) = true := bne_iff_ne.mpr c8
     obtain rfl := Option.some.inj H
  rotate_left 3
  ·rw [if_neg c4] at H
   exact absurd H (by simp)
 rotate_left 3
 ·rw [if_neg c3] at H
  exact absurd H (by simp)
 all_goals
  go_enter Tryz.func82, Tryz.ntmps82
  go_wp2_with (first | ((with_reducible refine zaS (N := 2) rfl ?_); refine zaG ?hg (N := 2) ?hd (cs := #[.slice A0_0 l0_0.length c0_0]) (t := 24) ?hr ?_; (case hd => rfl); (case hg => rfl); (case hr => first | (go_simp; done) | (go_simp; rfl)); intro gb308 hg wq1 hbox hb; have n0_ := zaa.mk (zam (by repeat (first | (with_reducible first | exact HB.out | apply zad | apply zab | apply zae) | exact HB.out)) hb); have n1_ := zaa.mk (hbox); have n2_ := zaa.mk ((by rw [hg]; exact (zar (by repeat (first | (with_reducible first | exact HB.out | apply zad | apply zab | apply zae) | exact HB.out))) : w.heap.size ≤ gb308)); have n3_ := zaa.mk ((by rw [hg]; exact (zar (by repeat (first | (with_reducible first | exact HB.out | apply zad | apply zab | apply zae) | exact HB.out))) : w.heap.size ≤ gb308)); clear HB; have HB := n0_; have BK308 := n1_; have GW308 := n2_; have GE308 := n3_; clear n0_ n1_ n2_ n3_; clear hb hbox hg; have hczq2_0 : wq1.cell? ⟨gb308, 0, none⟩ = some (.slice A0_0 l0_0.length c0_0) := (zac BK308.out 0).trans rfl; have hfzq2_0 := zaf BK308.out 0; have p309 : 0 ≤ (a1 : Int) := of_decide_eq_true (by first | (with_reducible assumption) | assumption); have q309 : a1 < (l0_0.length : Int) := of_decide_eq_true (by first | (with_reducible assumption) | assumption); obtain ⟨ad309, A309_1, c309_1, A309_2, c309_2, e309, hx309_0, hx309_1, hx309_2, hx309_3, hx309_4, hx309_5, hl309_1, hi309_1, hl309_2, hi309_2⟩ := zbc HR0_0.out a1 p309 q309; cases e309; replace hx309_0 := (HB.out.cell (World.block_lt_of_cell? w _ hx309_0)).trans hx309_0; replace hx309_1 := (HB.out.cell (World.block_lt_of_cell? w _ hx309_1)).trans hx309_1; replace hx309_2 := (HB.out.cell (World.block_lt_of_cell? w _ hx309_2)).trans hx309_2; replace hx309_3 := (HB.out.cell (World.block_lt_of_cell? w _ hx309_3)).trans hx309_3; replace hx309_4 := (HB.out.cell (World.block_lt_of_cell? w _ hx309_4)).trans hx309_4; replace hx309_5 := (HB.out.cell (World.block_lt_of_cell? w _ hx309_5)).trans hx309_5; have HR309_1 := zaa.mk hi309_1; have HC309_1 := zaa.mk hl309_1; clear hi309_1 hl309_1; have HR309_2 := zaa.mk hi309_2; have HC309_2 := zaa.mk hl309_2; clear hi309_2 hl309_2; replace p309 := eq_true p309; replace q309 := eq_true q309))
  go_ret
  exact ⟨by first | rfl | (simp [zaw, zav] <;> rfl) | (simp [*, zaw, zav] <;> rfl), by repeat (first | (with_reducible first | exact HB.out | apply zad | apply zab | apply zae | refine zal ?_ GE308.out) | exact HB.out)⟩
def tree_file.f (l0_0 : List (S40)) (a1 : Int) : Option (Int) := if 0 ≤ a1 then (if a1 < (l0_0.length : Int) then (if ((zah l0_0 a1).f0) = 2 then (some 31) else (if ((zah l0_0 a1).f0) = 3 then (some 28) else (some 0))) else (none)) else (none)
set_option maxHeartbeats 8000000 in
set_option maxRecDepth 100000 in
theorem tree_file.calls (A0_0 : Option Addr) (c0_0 : Nat) (l0_0 : List (S40)) (a1 : Int) (r : Int) (w : World) (hr0_0 : Kd.C k40 w A0_0 l0_0.length l0_0) (hc0_0 : l0_0.length ≤ c0_0) (h : tree_file.f l0_0 a1 = some r) :
  Calls Tryz.prog 83 #[.agg #[.slice A0_0 l0_0.length c0_0], .int .i64 a1] w fun e w' => e = .returned (.int .i64 r) ∧ Below w.heap.size w w' := by
 have hu24 := Tryz.underlying24
 have HR0_0 := zaa.mk hr0_0
 have HC0_0 := zaa.mk hc0_0
 clear hr0_0 hc0_0
 have HB := zaa.mk (Below.refl w.heap.size w)
 have H : (if 0 ≤ a1 then (if a1 < (l0_0.length : Int) then (if ((zah l0_0 a1).f0) = 2 then (some 31) else (if ((zah l0_0 a1).f0) = 3 then (some 28) else (some 0))) else (none)) else (none)) = some r := h
 clear h
 by_cases c3 : 0 ≤ a1
 focus
  rw [if_pos c3] at H
  have c3b0 : decide (0 ≤ a1) = true := decide_eq_true c3
  clear c3
  by_cases c4 : a1 < (l0_0.length : Int)
  focus
   rw [if_pos c4] at H
   have c4b0 : decide (a1 < (l0_0.length : Int)) = true := decide_eq_true c4
   clear c4
   by_cases c5 : ((zah l0_0 a1).f0) = 2
   focus
    rw [if_pos c5] at H
    have c5b0 : (((zah l0_0 a1).f0) == 2) = true := beq_iff_eq.mpr c5
    have c5b1 : (((zah l0_0 a1).f0) != 2) = false := bne_eq_false_iff_eq.mpr c5
    clear c5
    obtain rfl := Option.some.inj H
   rotate_left 1
   focus
    rw [if_neg c5] at H
    have c5b0 : (((zah l0_0 a1).f0) == 2) = false := beq_eq_false_iff_ne.mpr c5
    have c5b1 : (((zah l0_0 a1).f0) != 2) = true := bne_iff_ne.mpr c5
    by_cases c8 : ((zah l0_0 a1).f0) = 3
    focus
     rw [if_pos c8] at H
     have c8b0 : (((zah l0_0 a1).f0) == 3) = true := beq_iff_eq.mpr c8
     have c8b1 : (((zah l0_0 a1).f0) != 3) = false := bne_eq_false_iff_eq.mpr c8
     clear c8
     obtain rfl := Option.some.inj H
    rotate_left 1
    focus
     rw [if_neg c8] at H
     have c8b0 : (((zah l0_0 a1).f0) == 3) = false := beq_eq_false_iff_ne.mpr c8
     have c8b1 : (((zah l0_0 a1).f0) != 3) = true := bne_iff_ne.mpr c8
     obtain rfl := Option.some.inj H
  rotate_left 3
  ·rw [if_neg c4] at H
   exact absurd H (by simp)
 rotate_left 3
 ·rw [if_neg c3] at H
  exact absurd H (by simp)
 all_goals
  go_enter Tryz.func83, Tryz.ntmps83
  go_wp2_with (first | ((with_reducible refine zaS (N := 2) rfl ?_); refine zaG ?hg (N := 2) ?hd (cs := #[.slice A0_0 l0_0.length c0_0]) (t := 24) ?hr ?_; (case hd => rfl); (case hg => rfl); (case hr => first | (go_simp; done) | (go_simp; rfl)); intro gb317 hg wq1 hbox hb; have n0_ := zaa.mk (zam (by repeat (first | (with_reducible first | exact HB.out | apply zad | apply zab | apply zae) | exact HB.out)) hb); have n1_ := zaa.mk (hbox); have n2_ := zaa.mk ((by rw [hg]; exact (zar (by repeat (first | (with_reducible first | exact HB.out | apply zad | apply zab | apply zae) | exact HB.out))) : w.heap.size ≤ gb317)); have n3_ := zaa.mk ((by rw [hg]; exact (zar (by repeat (first | (with_reducible first | exact HB.out | apply zad | apply zab | apply zae) | exact HB.out))) : w.heap.size ≤ gb317)); clear HB; have HB := n0_; have BK317 := n1_; have GW317 := n2_; have GE317 := n3_; clear n0_ n1_ n2_ n3_; clear hb hbox hg; have hczq2_0 : wq1.cell? ⟨gb317, 0, none⟩ = some (.slice A0_0 l0_0.length c0_0) := (zac BK317.out 0).trans rfl; have hfzq2_0 := zaf BK317.out 0; have p318 : 0 ≤ (a1 : Int) := of_decide_eq_true (by first | (with_reducible assumption) | assumption); have q318 : a1 < (l0_0.length : Int) := of_decide_eq_true (by first | (with_reducible assumption) | assumption); obtain ⟨ad318, A318_1, c318_1, A318_2, c318_2, e318, hx318_0, hx318_1, hx318_2, hx318_3, hx318_4, hx318_5, hl318_1, hi318_1, hl318_2, hi318_2⟩ := zbc HR0_0.out a1 p318 q318; cases e318; replace hx318_0 := (HB.out.cell (World.block_lt_of_cell? w _ hx318_0)).trans hx318_0; replace hx318_1 := (HB.out.cell (World.block_lt_of_cell? w _ hx318_1)).trans hx318_1; replace hx318_2 := (HB.out.cell (World.block_lt_of_cell? w _ hx318_2)).trans hx318_2; replace hx318_3 := (HB.out.cell (World.block_lt_of_cell? w _ hx318_3)).trans hx318_3; replace hx318_4 := (HB.out.cell (World.block_lt_of_cell? w _ hx318_4)).trans hx318_4; replace hx318_5 := (HB.out.cell (World.block_lt_of_cell? w _ hx318_5)).trans hx318_5; have HR318_1 := zaa.mk hi318_1; have HC318_1 := zaa.mk hl318_1; clear hi318_1 hl318_1; have HR318_2 := zaa.mk hi318_2; have HC318_2 := zaa.mk hl318_2; clear hi318_2 hl318_2; replace p318 := eq_true p318; replace q318 := eq_true q318))
  go_ret
  exact ⟨by first | rfl | (simp [zaw, zav] <;> rfl) | (simp [*, zaw, zav] <;> rfl), by repeat (first | (with_reducible first | exact HB.out | apply zad | apply zab | apply zae | refine zal ?_ GE317.out) | exact HB.out)⟩
def zaK.l0 : Nat → List Int → Int → Option (Unit)
 | 0, _, _ => none
 | k + 1, x0, x2 => if x2 < (x0.length : Int) then (if 0 ≤ x2 then (zaK.l0 k (x0.set (x2 : Int).toNat (Go.bits .xor .u8 (rd x0 x2) 85)) (wrap64 (x2 + 1))) else (none)) else (if x0.length < 140737488355328 then (some ()) else (none))
def zaK.f (k : Nat) (l0 : List Int) : Option (Unit) := zaK.l0 k l0 0
set_option maxHeartbeats 8000000 in
set_option maxRecDepth 100000 in
theorem zaK.calls (k : Nat) (P0_ : Nat → Prop) (u9000_ : Value) (l0 : List Int) (w0 w : World) (hB : Below w0.heap.size w0 w) (ho0 : Kd.R (Kd.int .u8) 5 w w0.heap.size P0_ u9000_ l0) (h : zaK.f k l0 = some ()) :
  Calls Tryz.prog 41 #[u9000_] w fun e w' => e = .returned (.tuple #[]) ∧ Below w0.heap.size w0 w' ∧ Kept w w' (fun k_ => P0_ k_) := by
 have HO0 := zaa.mk (show Kd.R (Kd.int .u8) 5 w w0.heap.size (fun k_ => (P0_ k_ ∨ w.heap.size ≤ k_)) u9000_ l0 from Kd.zbj ho0 (fun k_ hk => (.inl hk)))
 have HK := zaa.mk (Kept.refl w (fun k_ => P0_ k_))
 have HW0 := zaa.mk hB.size
 have HB := zaa.mk hB
 clear hB
 have H : (zaK.l0 k l0 0) = some () := h
 clear h
 have H' := zaa.mk H
 clear H
 go_enter Tryz.func41, Tryz.ntmps41
 go_wp2
 go_loopg [2] k (fun kq v2 w' => ∃ (x0_1 : List Int) (x2_1 : Int), v2 = .int .i64 x2_1 ∧ zaa (zaK.l0 kq x0_1 x2_1 = some ()) ∧ zaa (kq ≤ k) ∧ zaa (Kd.R (Kd.int .u8) 5 w' w0.heap.size (fun k_ => (P0_ k_ ∨ w.heap.size ≤ k_)) u9000_ x0_1) ∧ zaa (Kept w w' (fun k_ => P0_ k_)) ∧ zaa (Below w0.heap.size w0 w'))
 case atStart => exact ⟨(l0), (0), (by first | rfl | (simp; done) | (simp [*]; done)), H', ⟨Nat.le_refl _⟩, ⟨by (with_reducible repeat (first | apply Kd.zbA | apply Kd.zbH | apply Kd.zca)); exact HO0.out⟩, ⟨by repeat (first | (with_reducible first | exact HK.out | apply Kept.alloc | apply Kept.drewN | apply Kept.drew) | exact HK.out)⟩, ⟨by repeat (first | (with_reducible first | exact HB.out | apply zad | apply zab | apply zae) | exact HB.out)⟩⟩
 case round =>
  clear H'
  obtain ⟨x0_1, x2_1, rfl, HA, HK1, HO_0, HK, HB⟩ := hrel
  cases gk with
  | zero => exact absurd HA.out (by simp [zaK.l0])
  | succ k1 =>
   have H := HA.out
   clear HA
   simp only [zaK.l0] at H
   by_cases c2 : x2_1 < (x0_1.length : Int)
   ·rw [if_pos c2] at H
    have c2b0 : decide (x2_1 < (x0_1.length : Int)) = true := decide_eq_true c2
    clear c2
    by_cases c3 : 0 ≤ x2_1
    ·rw [if_pos c3] at H
     have c3b0 : decide (0 ≤ x2_1) = true := decide_eq_true c3
     clear c3
     obtain ⟨y320, hy320⟩ : ∃ y_ : List Int, y_ = (x0_1.set (x2_1 : Int).toNat (Go.bits .xor .u8 (rd x0_1 x2_1) 85)) := ⟨_, rfl⟩
     replace H : (zaK.l0 k1 y320 (wrap64 (x2_1 + 1))) = some () := by first | (rw [hy320]; with_reducible exact H) | (have H2_ := (Option.bind_some _ _).symm.trans H; rw [hy320]; with_reducible exact H2_) | (have H2_ := (Option.bind_some _ _).symm.trans H; with_reducible exact H2_) | with_reducible exact H | (rw [hy320]; exact H) | exact H
     have Ny320 := zaa.mk hy320
     clear hy320
     have H' := zaa.mk H
     clear H
     obtain ⟨Ao5, co5, eo5⟩ := Kd.zbP HO_0.out
     subst eo5
     have p319 : 0 ≤ (x2_1 : Int) := of_decide_eq_true (by first | (with_reducible assumption) | assumption)
     have q319 : x2_1 < (x0_1.length : Int) := of_decide_eq_true (by first | (with_reducible assumption) | assumption)
     obtain ⟨ad319, e319, hx319_0⟩ := Kd.at_int (Kd.zbR HO_0.out).2.2 x2_1 p319 q319
     cases e319
     replace p319 := eq_true p319
     replace q319 := eq_true q319
     have p4 : 0 ≤ (x2_1 : Int) := of_decide_eq_true (by first | (with_reducible assumption) | assumption)
     have q4 : (x2_1 : Int) < ((x0_1.length : Int) : Int) := of_decide_eq_true (by first | (with_reducible assumption) | assumption)
     obtain ⟨go4, co4, eo4, gb4, gl4, cl4, HG4⟩ := Kd.R_form HO_0.out (by omega)
     (first | cases eo4 | (injection eo4 with ea_ en_ ec_; (first | subst ea_ | (injection ea_ with ea_; subst ea_)); subst ec_; clear en_))
     have GB4 := zaa.mk gb4
     have GG4 := zaa.mk HG4
     clear gb4 gl4 HG4
     have HMgo4 := zaa.mk (show (P0_ go4 ∨ w.heap.size ≤ go4) from (HO_0.out.1 _ rfl))
     (first | simp only [add_plain] at hx319_0 | skip)
     obtain ⟨hx4_0, hf4_0⟩ := Kd.R_celln 0 HO_0.out (x2_1 : Int) p4 q4
     replace p4 := eq_true p4
     replace q4 := eq_true q4
     have HP6 := Kd.R_putg HO_0.out (x2_1 : Int) (Go.bits .xor .u8 (rd x0_1 x2_1) 85)
     go_wp2_with (first | ((with_reducible refine gate_store (t := 5) (p := 16) rfl ?_); refine store_event (t := 5) (p := 16) (v := ?vo_w7) (w1 := (wr.setCell ⟨go4, (x2_1 : Int).toNat, none⟩ (.int .u8 (Go.bits .xor .u8 (rd x0_1 x2_1) 85)))) ?hg ?ho ?hn ?hr ?_; (case ho => rfl); (case hg => rfl); (case hn => rfl); (case hr => first | (go_simp; done) | (go_simp; rfl)); intro w7 hw; have hg : wr.grownBy w7 (some go4) := (by rw [hw]; exact HP6.2); have hp_ : Kd.R (Kd.int .u8) 5 w7 w0.heap.size (fun k_ => (P0_ k_ ∨ w.heap.size ≤ k_)) (.slice (some ⟨go4, 0, none⟩) x0_1.length co5) y320 := (by rw [hw, Ny320.out]; exact HP6.1); clear HP6; have n0_ := zaa.mk (hp_); have n1_ := zaa.mk ((by rw [hw]; exact zal (HB.out) GB4.out : Below w0.heap.size w0 w7)); have n2_ := zaa.mk (Kept.of_grown (S := (fun k_ => P0_ k_)) hg (by repeat (first | (with_reducible first | exact HK.out | apply Kept.alloc | apply Kept.drewN | apply Kept.drew) | exact HK.out)) (fun k_ e_ => (HO_0.out.1 k_ e_))); clear HO_0; clear HB; clear HK; have HO_0 := n0_; have HB := n1_; have HK := n2_; clear n0_ n1_ n2_; clear hg hw hp_))
     go_roundg k1
     case measure => have := HK1.out; omega
     case rel => exact ⟨(y320), (wrap64 (x2_1 + 1)), (by first | rfl | (simp; done) | (simp [*]; done)), H', ⟨by have := HK1.out; omega⟩, ⟨by (with_reducible repeat (first | apply Kd.zbA | apply Kd.zbH | apply Kd.zca)); exact HO_0.out⟩, ⟨by repeat (first | (with_reducible first | exact HK.out | apply Kept.alloc | apply Kept.drewN | apply Kept.drew) | exact HK.out)⟩, ⟨by repeat (first | (with_reducible first | exact HB.out | apply zad | apply zab | apply zae) | exact HB.out)⟩⟩
    ·rw [if_neg c3] at H
     exact absurd H (by simp)
   ·rw [if_neg c2] at H
    have c2b0 : decide (x2_1 < (x0_1.length : Int)) = false := decide_eq_false c2
    clear c2
    by_cases c8 : x0_1.length < 140737488355328
    ·rw [if_pos c8] at H
     have LMc8 := zaa.mk c8
     clear c8
     obtain ⟨y321, hy321⟩ : ∃ y_ : List Int, y_ = (x0_1 ++ [5]) := ⟨_, rfl⟩
     replace H : (some ()) = some () := by first | (rw [hy321]; with_reducible exact H) | (have H2_ := (Option.bind_some _ _).symm.trans H; rw [hy321]; with_reducible exact H2_) | (have H2_ := (Option.bind_some _ _).symm.trans H; with_reducible exact H2_) | with_reducible exact H | (rw [hy321]; exact H) | exact H
     have Ny321 := zaa.mk hy321
     clear hy321
     obtain ⟨Ao9, co9, eo9⟩ := Kd.zbP HO_0.out
     subst eo9
     go_wp2_with (first | ((with_reducible refine zce (b := .append) (xs := #[.tmp 17, .tmp 18]) rfl ?_); at_builtin; refine Kd.R_append (Kd.int .u8) (w0 := w0) w0.heap.size rfl (.tmp 17) (.tmp 18) 37 5 (.int .u8 0) 1 rfl Tryz.underlying37 info5 rfl (by decide) (by omega) (.slice Ao9 x0_1.length co9) x0_1 5 [.int .u8 5] (fun k_ => (P0_ k_ ∨ w.heap.size ≤ k_)) (fun _ => False) rfl rfl ?aP (fun _ hk => hk.elim) ?aF ?aO ?aB ?aS ?aL ?_; (case aP => exact rfl); (case aB => exact (by repeat (first | (with_reducible first | exact HB.out | apply zad | apply zab | apply zae) | exact HB.out))); (case aF => exact (fun k_ hk => (.inr (Nat.le_trans (by first | exact HK.out.1 | exact (show Kept w _ (fun k_ => P0_ k_) from by repeat (first | (with_reducible first | exact HK.out | apply Kept.alloc | apply Kept.drewN | apply Kept.drew) | exact HK.out)).1) hk)))); (case aO => exact (by (with_reducible repeat (first | apply Kd.zbA | apply Kd.zbH | apply Kd.zca)); exact HO_0.out)); (case aS => exact (zar (by repeat (first | (with_reducible first | exact HB.out | apply zad | apply zab | apply zae) | exact HB.out)))); (case aL => have := LMc8.out; omega); intro v322 w10 ho hb hg hat; rw [← Ny321.out] at ho; have n0_ := zaa.mk (hb); have n1_ := zaa.mk (Kept.of_grown (S := (fun k_ => P0_ k_)) hg (by repeat (first | (with_reducible first | exact HK.out | apply Kept.alloc | apply Kept.drewN | apply Kept.drew) | exact HK.out)) (fun k_ e_ => (HO_0.out.1 k_ e_))); have n2_ := zaa.mk (ho); clear HB; clear HK; clear HO_0; have HB := n0_; have HK := n1_; have HO323 := n2_; clear n0_ n1_ n2_; clear ho hb hg hat))
     first | go_end0 | ((try simp only [Exit.inBlock, Exit.then]); refine bodyPost_ret (results_none rfl _ _ _) rfl ?_)
     exact ⟨by first | rfl | (simp [zaw, zav] <;> rfl) | (simp [*, zaw, zav] <;> rfl), by repeat (first | (with_reducible first | exact HB.out | apply zad | apply zab | apply zae) | exact HB.out), by repeat (first | (with_reducible first | exact HK.out | apply Kept.alloc | apply Kept.drewN | apply Kept.drew) | exact HK.out)⟩
    ·rw [if_neg c8] at H
     exact absurd H (by simp)
theorem fileT_f (l : List S40) (n : Nat) (hn : n < l.length) : tree_file.f l (n : Int) = some (if (zah l (n : Int)).f0 = 2 then 31 else if (zah l (n : Int)).f0 = 3 then 28 else 0) := by
 unfold tree_file.f
 rw [if_pos (by omega), if_pos (by omega)]
 by_cases c : (zah l (n : Int)).f0 = 2
 ·rw [if_pos c, if_pos c]
 ·rw [if_neg c, if_neg c]
  by_cases c2 : (zah l (n : Int)).f0 = 3
  ·rw [if_pos c2, if_pos c2]
  ·rw [if_neg c2, if_neg c2]
theorem fileR_f (l : List S40) (n : Nat) (hn : n < l.length) : za5.f l (n : Int) = some (if (zah l (n : Int)).f0 = 2 then 31 else if (zah l (n : Int)).f0 = 3 then 28 else 0) := by
 unfold za5.f
 rw [if_pos (by omega), if_pos (by omega)]
 by_cases c : (zah l (n : Int)).f0 = 2
 ·rw [if_pos c, if_pos c]
 ·rw [if_neg c, if_neg c]
  by_cases c2 : (zah l (n : Int)).f0 = 3
  ·rw [if_pos c2, if_pos c2]
  ·rw [if_neg c2, if_neg c2]
theorem nodeP_data {x : S40} (h : zb6 x) : x.f1.length ≤ 16384 := by
 rcases h with h | h | h | h
 ·rw [h.2]; exact Nat.zero_le _
 ·exact h.2.2.1
 ·rw [h.2.2.2.2.1]; exact Nat.zero_le _
 ·rw [h.2.2.2.2.2.1]; exact Nat.zero_le _
theorem bytes_l0 : ∀ (d : Nat) (x : List Int) (i : Nat), i + d = x.length → x.length < 140737488355328 → Ev (fun k => zaK.l0 k x (i : Int)) ()
 | 0, x, i, h, hl => Ev.step (f := fun _ => some ()) (fun k => by
   show zaK.l0 (k + 1) x (i : Int) = _
   rw [zaK.l0, if_neg (by omega), if_pos hl]) (Ev.now ())
 | d + 1, x, i, h, hl => by
  refine Ev.step (fun k => ?_) (bytes_l0 d (x.set (i : Int).toNat (Go.bits .xor .u8 (rd x (i : Int)) 85)) (i + 1) (by rw [List.length_set]; omega) (by rw [List.length_set]; exact hl))
  show zaK.l0 (k + 1) x (i : Int) = _
  rw [zaK.l0, if_pos (by omega), if_pos (by omega), up64 (by omega)]
theorem bytes_ev (x : List Int) (h : x.length < 140737488355328) : Ev (fun k => zaK.f k x) () := bytes_l0 x.length x 0 (by omega) h
mutual
def tree_gone.j0 : Nat → Int → Bool → Bool → List (S40) → Option (Int)
 | 0, _, _, _, _ => none
 | k + 1, x1, x2, x7, x269000 => if x7 = true then (some 54) else (if x2 = true then (if 0 ≤ x1 then (if x1 < (x269000.length : Int) then (tree_gone.j1 k x1 x2 (decide ((((zah x269000 x1).f2).length : Int) > 0)) x269000) else (none)) else (none)) else (tree_gone.j1 k x1 x2 false x269000))
def tree_gone.j1 : Nat → Int → Bool → Bool → List (S40) → Option (Int)
 | 0, _, _, _, _ => none
 | k + 1, x1, x2, x15, x269000 => if x15 = true then (some 55) else (if x2 = true then (some 0) else ((tree_Dir.f x269000 x1).bind fun t271 => (if t271 = true then (some 31) else (some 0))))
end
theorem addN_nd (l : List S40) (d : Nat) (hd : d < l.length) (s : ByteArray) (n now : Int) (j : Nat) : (zah (addN l (d : Int) s n now) (j : Int)) = if d = j then { (zah l (d : Int)) with f2 := insN (zah l (d : Int)).f2 s n, f5 := now } else (zah l (j : Int)) := by
 unfold addN; rw [Int.toNat_natCast, nd_set _ _ _ hd]; rfl
theorem addN_cnt (l : List S40) (d : Nat) (hd : d < l.length) (s : ByteArray) (n now : Int) (i : Nat) : cnt (addN l (d : Int) s n now) i = cnt l i + if n = (i : Int) then 1 else 0 := by
 have h : cnt (l.set d { (zah l (d : Int)) with f2 := insN (zah l (d : Int)).f2 s n, f5 := now }) i + cntN (zah l (d : Int)).f2 i = cnt l i + cntN (insN (zah l (d : Int)).f2 s n) i := cnt_set l d { (zah l (d : Int)) with f2 := insN (zah l (d : Int)).f2 s n, f5 := now } hd i
 have h2 := cntN_ins (zah l (d : Int)).f2 s n i
 have e : addN l (d : Int) s n now = l.set d { (zah l (d : Int)) with f2 := insN (zah l (d : Int)).f2 s n, f5 := now } := by unfold addN; rw [Int.toNat_natCast]; rfl
 rw [e]
 omega
theorem links_cnt (u : List S40) (n : Nat) (hn : n < u.length) (v : Int) (i : Nat) : cnt (u.set n { (zah u (n : Int)) with f4 := v }) i = cnt u i := by
 have h : cnt (u.set n { (zah u (n : Int)) with f4 := v }) i + cntN (zah u (n : Int)).f2 i = cnt u i + cntN (zah u (n : Int)).f2 i := cnt_set u n { (zah u (n : Int)) with f4 := v } hn i
 omega
theorem linksBy_nd (u : List S40) (n : Nat) (hn : n < u.length) (d : Int) (j : Nat) : (zah (zcs u (n : Int) d) (j : Int)) = if n = j then { (zah u (n : Int)) with f4 := wrap64 ((zah u (n : Int)).f4 + d) } else (zah u (j : Int)) := by
 unfold zcs; rw [Int.toNat_natCast, nd_set _ _ _ hn]
theorem linksBy_cnt (u : List S40) (n : Nat) (hn : n < u.length) (d : Int) (i : Nat) : cnt (zcs u (n : Int) d) i = cnt u i := by
 unfold zcs; rw [Int.toNat_natCast]; exact links_cnt u n hn _ i
theorem linksBy_len (u : List S40) (n : Int) (d : Int) : (zcs u n d).length = u.length := List.length_set
theorem DirP.ins {x : S40} (h : DirP x) {s : ByteArray} (hs : nameP s = 0) (hb : bsAt x.f2 s = false) (hl : x.f2.length < 64) (n now : Int) (ht : TimeP now) : DirP { x with f2 := insN x.f2 s n, f5 := now } :=
 ⟨ht, by show (insN x.f2 s n).length ≤ 64; rw [insN_len]; omega, fun y hy => by
  rcases insN_mem.1 hy with rfl | hy
  ·exact hs
  ·exact h.ok y hy, insN_sorted h.sorted hb n, h.data, h.target⟩
theorem zb6.links {x : S40} (h : zb6 x) (hk : x.f0 ≠ 0) (v : Int) : zb6 { x with f4 := v } := by
 rcases h with h | h | h | h
 ·exact absurd h.1 hk
 ·exact .inr (.inl h)
 ·exact .inr (.inr (.inl h))
 ·exact .inr (.inr (.inr h))
theorem MayP.link {l : List S40} (h : MayP l) {d : Nat} (hd : d < l.length) (hk : (zah l (d : Int)).f0 = 2) (h4 : (zah l (d : Int)).f4 ≠ 0) {s : ByteArray} (hs : nameP s = 0) (hb : bsAt (zah l (d : Int)).f2 s = false) (hl : (zah l (d : Int)).f2.length < 64) {n : Nat} (hn : n < l.length) (hk0 : (zah l (n : Int)).f0 ≠ 0) (hk2 : (zah l (n : Int)).f0 ≠ 2) {now : Int} (ht : TimeP now) : MayP (zcs (addN l (d : Int) s (n : Int) now) (n : Int) 1) := by
 have hnd : d ≠ n := fun e => by subst e; exact hk2 hk
 have hn0 : 0 < n := Nat.pos_of_ne_zero fun e => by subst e; exact hk2 h.k0
 have hla : (addN l (d : Int) s (n : Int) now).length = l.length := addN_len ..
 have hrd : ∀ j : Nat, (zah (zcs (addN l (d : Int) s (n : Int) now) (n : Int) 1) (j : Int)) = if n = j then { (zah l (n : Int)) with f4 := (zah l (n : Int)).f4 + 1 } else if d = j then { (zah l (d : Int)) with f2 := insN (zah l (d : Int)).f2 s (n : Int), f5 := now } else (zah l (j : Int)) := fun j => by
  rw [linksBy_nd _ _ (by omega), addN_nd _ _ hd, addN_nd _ _ hd, if_neg hnd]
  have h1 := h.links n hn0 hn
  have h2 := h.cnt_small n
  rw [show wrap64 ((zah l (n : Int)).f4 + 1) = (zah l (n : Int)).f4 + 1 by rw [h1]; unfold wrap64; omega]
 have hc : ∀ i, cnt (zcs (addN l (d : Int) s (n : Int) now) (n : Int) 1) i = cnt l i + if n = i then 1 else 0 := fun i => by
  rw [linksBy_cnt _ _ (by omega), addN_cnt _ _ hd]
  by_cases e : n = i
  ·rw [if_pos (by omega), if_pos e]
  ·rw [if_neg (by omega), if_neg e]
 have hlen : (zcs (addN l (d : Int) s (n : Int) now) (n : Int) 1).length = l.length := by rw [linksBy_len, hla]
 generalize zcs (addN l (d : Int) s (n : Int) now) (n : Int) 1 = l' at *
 have hkk : ∀ j : Nat, (zah l' (j : Int)).f0 = (zah l (j : Int)).f0 := fun j => by
  rw [hrd]
  by_cases e : n = j
  ·subst e; rw [if_pos rfl]
  ·rw [if_neg e]
   by_cases e2 : d = j
   ·subst e2; rw [if_pos rfl]
   ·rw [if_neg e2]
 have hsub : ∀ j : Nat, ∀ x ∈ (zah l (j : Int)).f2, x ∈ (zah l' (j : Int)).f2 := fun j x hx => by
  rw [hrd]
  by_cases e : n = j
  ·subst e; rw [if_pos rfl]; exact hx
  ·rw [if_neg e]
   by_cases e2 : d = j
   ·subst e2; rw [if_pos rfl]; exact insN_mem.2 (.inr hx)
   ·rw [if_neg e2]; exact hx
 refine h.edit hlen (fun j _ => hkk j) ?_ (fun j hj => ?_) (fun j hj x hx => ?_) (fun i h0 hi => ?_) (fun i h0 hi hki => ?_)
 ·rw [hrd, if_neg (by omega)]
  by_cases e2 : d = 0
  ·subst e2; rw [if_pos rfl]; exact h.l0
  ·rw [if_neg e2]; exact h.l0
 ·rw [hrd]
  by_cases e : n = j
  ·subst e; rw [if_pos rfl]; exact (h.nodes n hn).links hk0 _
  ·rw [if_neg e]
   by_cases e2 : d = j
   ·subst e2; rw [if_pos rfl]; exact (((h.nodes d hd).dir hk).ins hs hb hl _ _ ht).node hk
   ·rw [if_neg e2]; exact h.nodes j hj
 ·rw [hrd] at hx
  by_cases e : n = j
  ·subst e; rw [if_pos rfl] at hx; exact h.names n hn x hx
  ·rw [if_neg e] at hx
   by_cases e2 : d = j
   ·subst e2; rw [if_pos rfl] at hx
    rcases insN_mem.1 hx with rfl | hx
    ·exact nameIn_of rfl hn0 hn hk0
    ·exact h.names d hd x hx
   ·rw [if_neg e2] at hx; exact h.names j hj x hx
 ·rw [hrd, hc]
  by_cases e : n = i
  ·subst e; rw [if_pos rfl, if_pos rfl]
   have := h.links n hn0 hn
   show (zah l (n : Int)).f4 + 1 = _
   omega
  ·rw [if_neg e, if_neg e]
   have := h.links i h0 hi
   by_cases e2 : d = i
   ·subst e2; rw [if_pos rfl]; show (zah l (d : Int)).f4 = _; omega
   ·rw [if_neg e2]; omega
 ·have hin : n ≠ i := fun e => by subst e; exact hk2 hki
  have hD := h.dirs i h0 hi hki
  have hr : Reach l i → Reach l' i := fun hr => Reach.keep n ((h.nodes n hn).leaf hk2) (by omega) h.names (fun j hj x hx m hm hkm _ => ⟨⟨x, hsub j x hx, rfl⟩, by rw [hkk]; exact hkm⟩) hr (fun e => hin e.symm)
  rw [hrd, if_neg hin]
  by_cases e2 : d = i
  ·subst e2; rw [if_pos rfl]
   exact ⟨hD.1, fun q => absurd q h4, fun q => hr (hD.2.2 q)⟩
  ·rw [if_neg e2]
   exact ⟨hD.1, hD.2.1, fun q => hr (hD.2.2 q)⟩
theorem withNew_nd (l : List S40) (n : Nat) (hn : n ≤ l.length) (kind : Int) (target : ByteArray) (now : Int) (j : Nat) : (zah (zbS l (n : Int) kind target now) (j : Int)) = if n = j then ⟨kind, [], [], target, 1, now⟩ else (zah l (j : Int)) := by
 unfold zbS
 rw [Int.toNat_natCast]
 by_cases e : n = l.length
 ·rw [if_pos (by omega), nd_set _ _ _ (by simp; omega)]
  by_cases e2 : n = j
  ·rw [if_pos e2, if_pos e2]
  ·rw [if_neg e2, if_neg e2]
   show (l ++ [z40]).getD (j : Int).toNat _ = l.getD (j : Int).toNat _
   rw [Int.toNat_natCast, List.getD_eq_getElem?_getD, List.getD_eq_getElem?_getD]
   by_cases e3 : j < l.length
   ·rw [List.getElem?_append_left e3]
   ·rw [List.getElem?_eq_none (by simp; omega), List.getElem?_eq_none (by omega)]
 ·rw [if_neg (by omega), nd_set _ _ _ (by omega)]
theorem withNew_len (l : List S40) (n : Nat) (hn : n ≤ l.length) (kind : Int) (target : ByteArray) (now : Int) : (zbS l (n : Int) kind target now).length = max l.length (n + 1) := by
 unfold zbS
 by_cases e : n = l.length
 ·rw [if_pos (by omega), List.length_set, List.length_append, List.length_singleton]; omega
 ·rw [if_neg (by omega), List.length_set]; omega
theorem withNew_cnt (l : List S40) (n : Nat) (hn : n ≤ l.length) (hz : n < l.length → (zah l (n : Int)).f2 = []) (kind : Int) (target : ByteArray) (now : Int) (i : Nat) : cnt (zbS l (n : Int) kind target now) i = cnt l i := by
 have hap : cnt (l ++ [z40]) i = cnt l i := by
  unfold cnt; rw [List.map_append, List.sum_append]; rfl
 unfold zbS
 rw [Int.toNat_natCast]
 by_cases e : n = l.length
 ·rw [if_pos (by omega)]
  have h := cnt_set (l ++ [z40]) n ⟨kind, [], [], target, 1, now⟩ (by simp; omega) i
  have h2 : (zah (l ++ [z40]) (n : Int)).f2 = [] := by
   rw [zcd _ _ (by simp; omega)]
   have : ∀ (h : n < (l ++ [z40]).length), (l ++ [z40])[n] = z40 := fun h => by subst e; rw [List.getElem_append_right (Nat.le_refl _)]; simp
   rw [this]; rfl
  rw [h2, hap] at h
  exact h
 ·rw [if_neg (by omega)]
  have h := cnt_set l n ⟨kind, [], [], target, 1, now⟩ (by omega) i
  rw [hz (by omega)] at h
  exact h
def KindP (kind : Int) (target : ByteArray) : Prop := (kind = 1 ∧ target = ⟨#[]⟩) ∨ (kind = 2 ∧ target = ⟨#[]⟩) ∨ (kind = 3 ∧ target ≠ ⟨#[]⟩ ∧ target.size ≤ 512 ∧ (0 : UInt8) ∉ bytesOf target)
theorem KindP.node {kind : Int} {target : ByteArray} (h : KindP kind target) {now : Int} (ht : TimeP now) : zb6 ⟨kind, [], [], target, 1, now⟩ := by
 rcases h with ⟨h, h1⟩ | ⟨h, h1⟩ | ⟨h, h1, h2, h3⟩
 ·exact .inr (.inl ⟨h, ht, Nat.zero_le _, rfl, h1⟩)
 ·exact .inr (.inr (.inl ⟨h, ht, Nat.zero_le _, fun i hi => absurd hi (Nat.not_lt_zero _), rfl, h1⟩))
 ·exact .inr (.inr (.inr ⟨h, ht, h1, h2, h3, rfl, rfl⟩))
theorem KindP.ne {kind : Int} {target : ByteArray} (h : KindP kind target) : kind ≠ 0 := by
 rcases h with ⟨h, _⟩ | ⟨h, _⟩ | ⟨h, _⟩ <;> omega
theorem MayP.free_names {l : List S40} (h : MayP l) {n : Nat} (hfree : n < l.length → (zah l (n : Int)).f0 = 0) : ∀ j, j < l.length → ∀ x ∈ (zah l (j : Int)).f2, x.f1 ≠ (n : Int) := fun j hj x hx e => by
 obtain ⟨m, hm, h1, h2, h3⟩ := (h.names j hj x hx).nat
 obtain rfl : n = m := by omega
 exact h3 (hfree h2)
theorem MayP.make {l : List S40} (h : MayP l) {d : Nat} (hd : d < l.length) (hk : (zah l (d : Int)).f0 = 2) (h4 : (zah l (d : Int)).f4 ≠ 0) {s : ByteArray} (hs : nameP s = 0) (hb : bsAt (zah l (d : Int)).f2 s = false) (hl : (zah l (d : Int)).f2.length < 64) {n : Nat} (hn : n ≤ l.length) (hn64 : n < 64) (hfree : n < l.length → (zah l (n : Int)).f0 = 0) {kind : Int} {target : ByteArray} (hkp : KindP kind target) {now : Int} (ht : TimeP now) : MayP (addN (zbS l (n : Int) kind target now) (d : Int) s (n : Int) now) := by
 have hnd : n ≠ d := fun e => by subst e; have := hfree hd; omega
 have hn0 : 0 < n := Nat.pos_of_ne_zero fun e => by subst e; have := hfree h.pos; have := h.k0; omega
 have hwl := withNew_len l n hn kind target now
 have hla : (addN (zbS l (n : Int) kind target now) (d : Int) s (n : Int) now).length = max l.length (n + 1) := by rw [addN_len, hwl]
 have hfn : n < l.length → (zah l (n : Int)).f2 = [] := fun q => (h.nodes n q).leaf (by rw [hfree q]; decide)
 have hrd : ∀ j : Nat, (zah (addN (zbS l (n : Int) kind target now) (d : Int) s (n : Int) now) (j : Int)) = if n = j then ⟨kind, [], [], target, 1, now⟩ else if d = j then { (zah l (d : Int)) with f2 := insN (zah l (d : Int)).f2 s (n : Int), f5 := now } else (zah l (j : Int)) := fun j => by
  rw [addN_nd _ _ (by omega), withNew_nd _ _ hn, withNew_nd _ _ hn, if_neg hnd]
  by_cases e : n = j
  ·rw [if_pos e, if_neg (by omega), if_pos e]
  ·rw [if_neg e, if_neg e]
 have hc : ∀ i, cnt (addN (zbS l (n : Int) kind target now) (d : Int) s (n : Int) now) i = cnt l i + if n = i then 1 else 0 := fun i => by
  rw [addN_cnt _ _ (by omega), withNew_cnt l n hn hfn]
  by_cases e : n = i
  ·rw [if_pos (by omega), if_pos e]
  ·rw [if_neg (by omega), if_neg e]
 generalize addN (zbS l (n : Int) kind target now) (d : Int) s (n : Int) now = l' at *
 have hno := h.free_names hfree
 have hkk : ∀ j : Nat, j ≠ n → (zah l' (j : Int)).f0 = (zah l (j : Int)).f0 := fun j hj => by
  rw [hrd, if_neg (by omega)]
  by_cases e2 : d = j
  ·subst e2; rw [if_pos rfl]
  ·rw [if_neg e2]
 have hsub : ∀ j : Nat, j < l.length → ∀ x ∈ (zah l (j : Int)).f2, x ∈ (zah l' (j : Int)).f2 := fun j hj x hx => by
  rw [hrd]
  by_cases e : n = j
  ·subst e; rw [hfn hj] at hx; cases hx
  ·rw [if_neg e]
   by_cases e2 : d = j
   ·subst e2; rw [if_pos rfl]; exact insN_mem.2 (.inr hx)
   ·rw [if_neg e2]; exact hx
 have hnin : ∀ x, zbJ l x → x.f1 ≠ (n : Int) → zbJ l' x := fun x hx hne => by
  obtain ⟨m, hm, h1, h2, h3⟩ := hx.nat
  exact nameIn_of hm h1 (by omega) (by rw [hkk m (by omega)]; exact h3)
 have hreach : ∀ i, Reach l i → Reach l' i := fun i hr => by
  by_cases e : i = n
  ·subst e
   cases hr with
   | root => exact .root
   | @step j x hj hjl hx hd =>
    obtain ⟨m, hm, _, _, _⟩ := (h.names j hjl x hx).nat
    exact absurd hm (by have := hno j hjl x hx; rw [hm, Int.toNat_natCast] at this; exact fun _ => this rfl)
  ·exact Reach.keep n (by
    by_cases q : n < l.length
    ·exact hfn q
    ·unfold zah; rw [Int.toNat_natCast, List.getD_eq_getElem?_getD, List.getElem?_eq_none (by omega)]; rfl) (by omega) h.names (fun j hj x hx m hm hkm hmn => ⟨⟨x, hsub j hj x hx, rfl⟩, by rw [hkk m hmn]; exact hkm⟩) hr e
 have hkn := hkp.ne
 refine ⟨by omega, by have := h.len; omega, fun h1 => ?_, ?_, ?_, fun j hj => ?_, fun j hj x hx => ?_, fun i h0 hi => ?_, fun i h0 hi hki => ?_⟩
 ·rw [show (l'.length : Int) - 1 = ((l'.length - 1 : Nat) : Int) by omega, hrd]
  by_cases e : n = l'.length - 1
  ·rw [if_pos e]; exact hkn
  ·rw [if_neg e]
   have hlast := h.last (by omega)
   rw [show (l.length : Int) - 1 = ((l'.length - 1 : Nat) : Int) by omega] at hlast
   by_cases e2 : d = l'.length - 1
   ·rw [if_pos e2]; rw [← e2] at hlast; exact hlast
   ·rw [if_neg e2]; exact hlast
 ·rw [hkk 0 (by omega)]; exact h.k0
 ·rw [hrd, if_neg (by omega)]
  by_cases e2 : d = 0
  ·subst e2; rw [if_pos rfl]; exact h.l0
  ·rw [if_neg e2]; exact h.l0
 ·rw [hrd]
  by_cases e : n = j
  ·rw [if_pos e]; exact hkp.node ht
  ·rw [if_neg e]
   by_cases e2 : d = j
   ·subst e2; rw [if_pos rfl]; exact (((h.nodes d hd).dir hk).ins hs hb hl _ _ ht).node hk
   ·rw [if_neg e2]; exact h.nodes j (by omega)
 ·rw [hrd] at hx
  by_cases e : n = j
  ·rw [if_pos e] at hx; cases hx
  ·rw [if_neg e] at hx
   by_cases e2 : d = j
   ·subst e2; rw [if_pos rfl] at hx
    rcases insN_mem.1 hx with rfl | hx
    ·exact nameIn_of rfl hn0 (by omega) (by rw [hrd, if_pos rfl]; exact hkn)
    ·exact hnin x (h.names d hd x hx) (hno d hd x hx)
   ·rw [if_neg e2] at hx; exact hnin x (h.names j (by omega) x hx) (hno j (by omega) x hx)
 ·rw [hrd, hc]
  by_cases e : n = i
  ·subst e; rw [if_pos rfl, if_pos rfl]
   have : cnt l n = 0 := cnt_zero.2 hno
   show (1 : Int) = _
   omega
  ·rw [if_neg e, if_neg e]
   have := h.links i h0 (by omega)
   by_cases e2 : d = i
   ·subst e2; rw [if_pos rfl]; show (zah l (d : Int)).f4 = _; omega
   ·rw [if_neg e2]; omega
 ·by_cases e : n = i
  ·subst e
   rw [hrd, if_pos rfl]
   refine ⟨Int.le_refl _, fun q => (by have q : (1 : Int) = 0 := q; omega), fun _ => ?_⟩
   have hrd2 := hreach d (h.reach hd hk h4)
   have hm : (⟨s, (n : Int)⟩ : S50) ∈ (zah l' (d : Int)).f2 := by rw [hrd, if_neg hnd, if_pos rfl]; exact insN_mem.2 (.inl rfl)
   have := Reach.step hrd2 (by omega) hm hki
   rwa [Int.toNat_natCast] at this
  ·rw [hkk i (by omega)] at hki
   have hD := h.dirs i h0 (by omega) hki
   rw [hrd, if_neg e]
   by_cases e2 : d = i
   ·subst e2; rw [if_pos rfl]
    exact ⟨hD.1, fun q => absurd q h4, fun q => hreach _ (hD.2.2 q)⟩
   ·rw [if_neg e2]
    exact ⟨hD.1, hD.2.1, fun q => hreach _ (hD.2.2 q)⟩
theorem MayP.bad {l : List S40} (h : MayP l) (e : Int) : Ev (fun k => zbw.f k l e) (l, e) := bad_ev (by have := h.len; omega) h.fits.n e (fun _ => h.ev)
theorem MayP.own {l : List S40} (h : MayP l) : Ev (fun k => zaZ.f k l) l := own_ev l (by have := h.len; omega) h.fits.n
theorem linkP_gen {l : List S40} {m : Bool} (hT : Ev (fun k => zaH.f k l) m) (ns : List Int) (now : Int) {tm : Bool} (ht : tm = true ↔ TimeP now) : Ev (fun k => linkP k l ns now) ((m && ns.all fun n => hasB l n) && tm) := by
 have hm := mayN_ev hT ns
 obtain ⟨b, hb, hbt⟩ := tree_time_ now
 have e : b = tm := Bool.eq_iff_iff.2 (hbt.trans ht.symm)
 subst e
 unfold linkP
 refine Ev.bind hm ?_
 cases (m && ns.all fun n => hasB l n) with
 | true => exact Ev.congr (fun _ => if_pos rfl) (Ev.congr (fun _ => by rw [hb]; rfl) (Ev.now _))
 | false => exact Ev.congr (fun _ => if_neg (by simp)) (Ev.now _)
def elseR (m : Bool) (l : List S40) : List S40 := if m = true then l else []
theorem bad100 {l : List S40} (hf : Fits l) {m : Bool} (hT : Ev (fun k => zaH.f k l) m) : Ev (fun k => zbw.f k l 100) (elseR m l, 100) := by
 cases m with
 | true => exact (of_may hf hT).bad 100
 | false => exact bad_not hT
theorem told_ev {r : List S40} (hl : r.length < 9223372036854775807) (hf : ∀ x ∈ r, FitsN x) (e : Int) : Ev (fun k => zbm.f k r e r e) true := by
 unfold zbm.f
 refine Ev.congr (f := fun k => (za7.f k r r).bind fun t => some t) (fun k => ?_) (Ev.bind ((eqTree r r hl hf).out rfl) (Ev.now _))
 unfold za3.f
 rw [Option.bind_some, if_pos rfl]
def SpoilG (k : Nat) (r : List S40) : Prop := (∀ x ∈ r, zaK.f k x.f1 = some ()) ∧ r.length ≤ 1000000 ∧ ∀ x ∈ r, x.f2.length ≤ 1000000
theorem bytes_all : ∀ (r : List S40), (∀ x ∈ r, x.f1.length < 140737488355328) → ∃ K, ∀ k, K ≤ k → ∀ x ∈ r, zaK.f k x.f1 = some ()
 | [], _ => ⟨0, fun _ _ _ h => (by cases h)⟩
 | x :: t, h => by
  obtain ⟨K1, h1⟩ := bytes_ev x.f1 (h x (List.mem_cons_self ..))
  obtain ⟨K2, h2⟩ := bytes_all t (fun y hy => h y (List.mem_cons_of_mem _ hy))
  exact ⟨K1 + K2, fun k hk y hy => by
   rcases List.mem_cons.1 hy with rfl | hy
   ·exact h1 k (by omega)
   ·exact h2 k (by omega) y hy⟩
theorem mem_nd {r : List S40} {x : S40} (hx : x ∈ r) : ∃ j, j < r.length ∧ x = (zah r (j : Int)) := by
 obtain ⟨j, hj, e⟩ := List.getElem_of_mem hx
 exact ⟨j, hj, by rw [← e]; show _ = r.getD (j : Int).toNat _; rw [Int.toNat_natCast, List.getD_eq_getElem?_getD, List.getElem?_eq_getElem hj]; rfl⟩
theorem MayP.spoil {r : List S40} (h : MayP r) : ∃ K, ∀ k, K ≤ k → SpoilG k r := by
 have hd : ∀ x ∈ r, x.f1.length ≤ 16384 ∧ x.f2.length ≤ 64 := fun x hx => by
  obtain ⟨j, hj, rfl⟩ := mem_nd hx
  exact ⟨nodeP_data (h.nodes j hj), nodeP_names (h.nodes j hj)⟩
 obtain ⟨K, hK⟩ := bytes_all r (fun x hx => by have := (hd x hx).1; omega)
 exact ⟨K, fun k hk => ⟨hK k hk, by have := h.len; omega, fun x hx => by have := (hd x hx).2; omega⟩⟩
theorem spoil_nil : ∃ K, ∀ k, K ≤ k → SpoilG k [] := ⟨0, fun _ _ => ⟨fun _ h => (by cases h), Nat.zero_le _, fun _ h => (by cases h)⟩⟩
theorem else_spoil {l : List S40} (hf : Fits l) {m : Bool} (hT : Ev (fun k => zaH.f k l) m) : ∃ K, ∀ k, K ≤ k → SpoilG k (elseR m l) := by
 cases m with
 | true => exact (of_may hf hT).spoil
 | false => exact spoil_nil
theorem MayP.told {r : List S40} (h : MayP r) (e : Int) : Ev (fun k => zbm.f k r e r e) true := told_ev (by have := h.len; omega) h.fits.n e
theorem else_told {l : List S40} (hf : Fits l) {m : Bool} (hT : Ev (fun k => zaH.f k l) m) : Ev (fun k => zbm.f k (elseR m l) 100 (elseR m l) 100) true := by
 cases m with
 | true => exact (of_may hf hT).told 100
 | false => exact told_ev (r := []) (by decide) (fun _ h => (by cases h)) 100
theorem data_grow {W : World} {base g c : Nat} {ok : Nat → Prop} {l : List S40} (hS : Kd.S k40 40 W base ok (.slice (some ⟨g, 0, none⟩) l.length c) l) (x : Int) (h0 : 0 ≤ x) (h1 : x < (l.length : Int)) (hfresh : ∀ k, W.heap.size ≤ k → ok k) :
  ∃ (A : Option Addr) (m : Nat), W.cell? ⟨g, x.toNat * 6 + 1, none⟩ = some (.slice A (zah l x).f1.length m) ∧ (zah l x).f1.length ≤ m ∧ Kd.C (Kd.int .u8) W A (zah l x).f1.length (zah l x).f1 ∧ W.frozen? ⟨g, x.toNat * 6 + 1, none⟩ = false ∧ base ≤ g ∧ g < W.heap.size ∧ ok g ∧
   (Kd.int .u8).R 5 W base (fun _ => True) (.slice A (zah l x).f1.length m) (zah l x).f1 ∧ (∀ q, (Value.slice A (zah l x).f1.length m).ownBlock = some q → ok q) ∧
   ∀ (W1 : World) (v1 : Value) (d : List Int), W.grownBy W1 (Value.slice A (zah l x).f1.length m).ownBlock → (Kd.int .u8).R 5 W1 base (fun _ => True) v1 d → (v1.ownBlock = (Value.slice A (zah l x).f1.length m).ownBlock ∨ ∃ b, v1.ownBlock = some b ∧ W.heap.size ≤ b) →
    (∃ u, W1.cell? ⟨g, x.toNat * 6 + 1, none⟩ = some u) ∧ W1.frozen? ⟨g, x.toNat * 6 + 1, none⟩ = false ∧ Kd.S k40 40 (W1.setCell ⟨g, x.toNat * 6 + 1, none⟩ v1) base ok (.slice (some ⟨g, 0, none⟩) l.length c) (l.set x.toNat { zah l x with f1 := d }) := by
 obtain ⟨oki, cs, hcl, hM, hcc, hoki, hH⟩ := Kd.S_lend hS z40 x h0 h1
 obtain ⟨g', cap', e', hbg, hgl, cells, hgb⟩ := Kd.S_form hS (by omega)
 injection e' with e1 _ _
 injection e1 with e1
 injection e1 with e1
 subst e1
 obtain ⟨v1, v2, rfl, hR1, hR2⟩ := zck hM
 have hR1 : (Kd.int .u8).R 5 W base oki v1 (zah l x).f1 := hR1
 have hR2 : k50.R 50 W base oki v2 (zah l x).f2 := hR2
 obtain ⟨A, m, rfl, hm, hC⟩ := Kd.R_reads hR1
 refine ⟨A, m, hcc 1 _ rfl, hm, hC, zaf hgb _, hbg, hgl, (Kd.S_R hS).1 g rfl, Kd.zbj hR1 (fun _ _ => trivial), fun q hq => (hoki q (hR1.1 q hq)).1, fun W1 v1' d hg hR3 hat => ?_⟩
 have hgne : some g ≠ (Value.slice A (zah l x).f1.length m).ownBlock := fun e => (hoki g (hR1.1 g e.symm)).2 rfl
 have hgb1 := (hg.block g hgl hgne).trans hgb
 have hH1 := Kd.H_grown (Kd.H_widen hH) hg (fun k hk => .inl (hR1.1 k hk))
 have hR23 := Kd.R_grown (Kd.zcx hR2 (Kd.R_typed hR1) (by decide)) hg (fun k hk => hk.2)
 have hR13 : (Kd.int .u8).R 5 W1 base (fun q => oki q ∨ (ok q ∧ W.heap.size ≤ q)) v1' d := Kd.R_flat (fun h => h) hR3 (fun k hk _ => by
  rcases hat with h | ⟨b, h, hb⟩
  ·exact .inl (hR1.1 k (h.symm.trans hk))
  ·rw [h] at hk; injection hk with hk; subst hk; exact .inr ⟨hfresh _ hb, hb⟩)
 have hseg1 := (Kd.H_seg hH1 h0 h1 (seg := [v1']) (j := 1) (by show 1 + 1 ≤ 6; omega) (fun q hq => by rw [List.mem_singleton.1 hq]; exact (Kd.R_val hR3).2)).1
 refine ⟨⟨_, (zac hgb1 _).trans ((zac hgb _).symm.trans (hcc 1 _ rfl))⟩, zaf hgb1 _, ?_⟩
 refine Kd.H_back hseg1 (x' := { zah l x with f1 := d }) (okp := fun k => oki k ∨ (ok k ∧ W.heap.size ≤ k)) ?_ (fun _ hk => hk)
 exact zcg _ _ _ { zah l x with f1 := d } (Kd.R_set hR13 hgb1 (by decide) _ _) (Kd.R_set (Kd.zbj hR23 (fun _ hk => .inl hk.1)) hgb1 (by decide) _ _)
theorem data_byte {W : World} {base g c : Nat} {ok : Nat → Prop} {l : List S40} (hS : Kd.S k40 40 W base ok (.slice (some ⟨g, 0, none⟩) l.length c) l) (x : Int) (h0 : 0 ≤ x) (h1 : x < (l.length : Int)) (hfresh : ∀ k, W.heap.size ≤ k → ok k) (j : Nat) (hj : j < (zah l x).f1.length) :
  ∃ (gd m : Nat), W.cell? ⟨g, x.toNat * 6 + 1, none⟩ = some (.slice (some ⟨gd, 0, none⟩) (zah l x).f1.length m) ∧ (∃ u, W.cell? ⟨gd, j, none⟩ = some u) ∧ W.frozen? ⟨gd, j, none⟩ = false ∧ base ≤ gd ∧ gd < W.heap.size ∧ ok gd ∧
   ∀ b : Int, Kd.S k40 40 (W.setCell ⟨gd, j, none⟩ (.int .u8 b)) base ok (.slice (some ⟨g, 0, none⟩) l.length c) (l.set x.toNat { zah l x with f1 := (zah l x).f1.set j b }) := by
 obtain ⟨oki, cs, hcl, hM, hcc, hoki, hH⟩ := Kd.S_lend hS z40 x h0 h1
 obtain ⟨v1, v2, rfl, hR1, hR2⟩ := zck hM
 have hR1 : (Kd.int .u8).R 5 W base oki v1 (zah l x).f1 := hR1
 have hR2 : k50.R 50 W base oki v2 (zah l x).f2 := hR2
 obtain ⟨gd, m, rfl, hbg, hgl, cells, hgb⟩ := Kd.R_form hR1 (by omega)
 obtain ⟨_, hm, hC⟩ := Kd.zbR hR1
 have hokd := hR1.1 gd rfl
 obtain ⟨ad, cc, ea, _, hK, hc0⟩ := Kd.C_get hC 0 (j : Int) (by omega) (by omega)
 injection ea with ea
 subst ea
 obtain rfl : cc = [.int .u8 ((zah l x).f1.getD (j : Int).toNat 0)] := hK
 have ej : (j : Int).toNat * (Kd.int .u8).sz + 0 = j := by show (j : Int).toNat * 1 + 0 = j; omega
 have hcell : W.cell? ⟨gd, j, none⟩ = some (.int .u8 ((zah l x).f1.getD (j : Int).toNat 0)) := by
  have h := hc0 0 _ rfl
  rw [ej] at h
  rwa [Addr.add_lit, Nat.zero_add] at h
 refine ⟨gd, m, hcc 1 _ rfl, ⟨_, hcell⟩, zaf hgb _, hbg, hgl, (hoki gd hokd).1, fun b => ?_⟩
 obtain ⟨hR3, hg⟩ := Kd.R_seg hR1 (j : Int) (by omega) (by omega) (c := [.int .u8 ((zah l x).f1.getD (j : Int).toNat 0)]) (seg := [.int .u8 b]) (j := 0) (x' := b) (okp := fun _ => False) rfl (fun j' u hu => by
  cases j' with
  | zero => injection hu with hu; subst hu; rw [ej]; exact hcell
  | succ n => cases hu) (by show 0 + 1 ≤ 1; omega) rfl (fun _ h => h.elim)
 rw [ej] at hR3 hg
 rw [Int.toNat_natCast] at hR3
 have hH1 := Kd.H_grown hH hg (fun k hk => by injection hk with hk; subst hk; exact hokd)
 have hR23 := Kd.R_grown (Kd.zcx hR2 (Kd.R_typed hR1) (by decide)) hg (fun k hk => hk.2)
 refine Kd.H_back hH1 (x' := { zah l x with f1 := (zah l x).f1.set j b }) (okp := oki) ?_ (fun _ hk => hk)
 exact zcg _ _ _ { zah l x with f1 := (zah l x).f1.set j b } hR3 (Kd.zbj hR23 (fun _ hk => hk.1))
theorem time_put {W : World} {base g c : Nat} {ok : Nat → Prop} {l : List S40} (hS : Kd.S k40 40 W base ok (.slice (some ⟨g, 0, none⟩) l.length c) l) (x : Int) (h0 : 0 ≤ x) (h1 : x < (l.length : Int)) :
  W.cell? ⟨g, x.toNat * 6 + 5, none⟩ = some (.int .i64 (zah l x).f5) ∧ W.frozen? ⟨g, x.toNat * 6 + 5, none⟩ = false ∧ ok g ∧ base ≤ g ∧ g < W.heap.size ∧
   ∀ m : Int, Kd.S k40 40 (W.setCell ⟨g, x.toNat * 6 + 5, none⟩ (.int .i64 m)) base ok (.slice (some ⟨g, 0, none⟩) l.length c) (l.set x.toNat { zah l x with f5 := m }) := by
 obtain ⟨oki, cs, hcl, hM, hcc, hoki, hH⟩ := Kd.S_lend hS z40 x h0 h1
 obtain ⟨g', cap', e', hbg, hgl, cells, hgb⟩ := Kd.S_form hS (by omega)
 injection e' with e1 _ _
 injection e1 with e1
 injection e1 with e1
 subst e1
 obtain ⟨v1, v2, rfl, hR1, hR2⟩ := zck hM
 refine ⟨hcc 5 _ rfl, zaf hgb _, (Kd.S_R hS).1 g rfl, hbg, hgl, fun m => ?_⟩
 have hseg := (Kd.H_seg hH h0 h1 (seg := [.int .i64 m]) (j := 5) (by show 5 + 1 ≤ 6; omega) (fun q hq => by rw [List.mem_singleton.1 hq]; rfl)).1
 refine Kd.H_back hseg (x' := { zah l x with f5 := m }) (okp := oki) ?_ (fun _ hk => hk)
 exact zcg _ _ _ { zah l x with f5 := m } (Kd.R_set hR1 hgb (by decide) _ _) (Kd.R_set hR2 hgb (by decide) _ _)
def withD (l : List S40) (n : Int) (d : List Int) : List S40 := l.set n.toNat { zah l n with f1 := d }
theorem withD_rd {l : List S40} {n : Int} (h0 : 0 ≤ n) (h1 : n < (l.length : Int)) (y : S40) : zah (l.set n.toNat y) n = y := by
 show (l.set n.toNat y).getD n.toNat _ = y
 rw [List.getD_eq_getElem?_getD, List.getElem?_set_self (by omega)]
 rfl
theorem withD_same (l : List S40) {n : Int} (h0 : 0 ≤ n) (h1 : n < (l.length : Int)) : withD l n (zah l n).f1 = l := by
 have h : n.toNat < l.length := by omega
 unfold withD
 have e : zah l n = l[n.toNat] := by
  show l.getD n.toNat _ = _
  rw [List.getD_eq_getElem?_getD, List.getElem?_eq_getElem h]; rfl
 rw [e]
 exact List.set_getElem_self h
theorem grow2 {W : World} {base g c : Nat} {ok : Nat → Prop} {l : List S40} {n : Int} {d : List Int} (hS : Kd.S k40 40 W base ok (.slice (some ⟨g, 0, none⟩) l.length c) (withD l n d)) (h0 : 0 ≤ n) (h1 : n < (l.length : Int)) (hfresh : ∀ k, W.heap.size ≤ k → ok k) :
  ∃ (A : Option Addr) (m : Nat), W.cell? ⟨g, n.toNat * 6 + 1, none⟩ = some (.slice A d.length m) ∧ d.length ≤ m ∧ Kd.C (Kd.int .u8) W A d.length d ∧ W.frozen? ⟨g, n.toNat * 6 + 1, none⟩ = false ∧ base ≤ g ∧ g < W.heap.size ∧ ok g ∧
   (Kd.int .u8).R 5 W base (fun _ => True) (.slice A d.length m) d ∧ (∀ q, (Value.slice A d.length m).ownBlock = some q → ok q) ∧
   ∀ (W1 : World) (v1 : Value) (d' : List Int), W.grownBy W1 (Value.slice A d.length m).ownBlock → (Kd.int .u8).R 5 W1 base (fun _ => True) v1 d' → (v1.ownBlock = (Value.slice A d.length m).ownBlock ∨ ∃ b, v1.ownBlock = some b ∧ W.heap.size ≤ b) →
    (∃ u, W1.cell? ⟨g, n.toNat * 6 + 1, none⟩ = some u) ∧ W1.frozen? ⟨g, n.toNat * 6 + 1, none⟩ = false ∧ Kd.S k40 40 (W1.setCell ⟨g, n.toNat * 6 + 1, none⟩ v1) base ok (.slice (some ⟨g, 0, none⟩) l.length c) (withD l n d') := by
 have hl : (withD l n d).length = l.length := List.length_set
 have hr : zah (withD l n d) n = { zah l n with f1 := d } := withD_rd h0 h1 _
 rw [← hl] at hS h1
 have h := data_grow hS n h0 h1 hfresh
 rw [hr, hl] at h
 have hs : ∀ d' : List Int, (withD l n d).set n.toNat { ({ zah l n with f1 := d } : S40) with f1 := d' } = withD l n d' := fun d' => by unfold withD; rw [List.set_set]
 obtain ⟨A, m, a1, a2, a3, a4, a5, a6, a7, a8, a9, a10⟩ := h
 refine ⟨A, m, a1, a2, a3, a4, a5, a6, a7, a8, a9, fun W1 v1 d' b1 b2 b3 => ?_⟩
 obtain ⟨c1, c2, c3⟩ := a10 W1 v1 d' b1 b2 b3
 rw [hs] at c3
 exact ⟨c1, c2, c3⟩
theorem byte2 {W : World} {base g c : Nat} {ok : Nat → Prop} {l : List S40} {n : Int} {d : List Int} (hS : Kd.S k40 40 W base ok (.slice (some ⟨g, 0, none⟩) l.length c) (withD l n d)) (h0 : 0 ≤ n) (h1 : n < (l.length : Int)) (hfresh : ∀ k, W.heap.size ≤ k → ok k) (j : Nat) (hj : j < d.length) :
  ∃ (gd m : Nat), W.cell? ⟨g, n.toNat * 6 + 1, none⟩ = some (.slice (some ⟨gd, 0, none⟩) d.length m) ∧ (∃ u, W.cell? ⟨gd, j, none⟩ = some u) ∧ W.frozen? ⟨gd, j, none⟩ = false ∧ base ≤ gd ∧ gd < W.heap.size ∧ ok gd ∧
   ∀ b : Int, Kd.S k40 40 (W.setCell ⟨gd, j, none⟩ (.int .u8 b)) base ok (.slice (some ⟨g, 0, none⟩) l.length c) (withD l n (d.set j b)) := by
 have hl : (withD l n d).length = l.length := List.length_set
 have hr : zah (withD l n d) n = { zah l n with f1 := d } := withD_rd h0 h1 _
 rw [← hl] at hS h1
 have h := data_byte hS n h0 h1 hfresh j (by rw [hr]; exact hj)
 rw [hr, hl] at h
 obtain ⟨gd, m, a1, a2, a3, a4, a5, a6, a7⟩ := h
 refine ⟨gd, m, a1, a2, a3, a4, a5, a6, fun b => ?_⟩
 have hs : (withD l n d).set n.toNat { ({ zah l n with f1 := d } : S40) with f1 := d.set j b } = withD l n (d.set j b) := by unfold withD; rw [List.set_set]
 rw [← hs]
 exact a7 b
theorem time2 {W : World} {base g c : Nat} {ok : Nat → Prop} {l : List S40} {n : Int} {d : List Int} (hS : Kd.S k40 40 W base ok (.slice (some ⟨g, 0, none⟩) l.length c) (withD l n d)) (h0 : 0 ≤ n) (h1 : n < (l.length : Int)) :
  (∃ u, W.cell? ⟨g, n.toNat * 6 + 5, none⟩ = some u) ∧ W.frozen? ⟨g, n.toNat * 6 + 5, none⟩ = false ∧ ok g ∧ base ≤ g ∧ g < W.heap.size ∧
   ∀ m : Int, Kd.S k40 40 (W.setCell ⟨g, n.toNat * 6 + 5, none⟩ (.int .i64 m)) base ok (.slice (some ⟨g, 0, none⟩) l.length c) (l.set n.toNat { zah l n with f1 := d, f5 := m }) := by
 have hl : (withD l n d).length = l.length := List.length_set
 have hr : zah (withD l n d) n = { zah l n with f1 := d } := withD_rd h0 h1 _
 rw [← hl] at hS h1
 have h := time_put hS n h0 h1
 rw [hr, hl] at h
 obtain ⟨a1, a2, a3, a4, a5, a6⟩ := h
 refine ⟨⟨_, a1⟩, a2, a3, a4, a5, fun m => ?_⟩
 have hs : (withD l n d).set n.toNat { ({ zah l n with f1 := d } : S40) with f5 := m } = l.set n.toNat { zah l n with f1 := d, f5 := m } := by unfold withD; rw [List.set_set]
 rw [← hs]
 exact a6 m
end Go.Proofs.YtjghephnjkffcaaGreat.PAll
