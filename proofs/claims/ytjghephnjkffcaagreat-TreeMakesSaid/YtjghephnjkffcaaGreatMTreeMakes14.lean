/- Parts of one proof, merged by a program of this repo: walks over the given program and plain facts. -/
import Derived.Test.YtjghephnjkffcaaGreatMTreeMakes12
import Derived.Test.YtjghephnjkffcaaGreatMTreeMakes13
import Derived.Test.YtjghephnjkffcaaGreatMTreeMakes4
import Derived.Test.YtjghephnjkffcaaGreatMTreeMakes8
import Derived.Test.YtjghephnjkffcaaGreatMTreeMakes11
import Derived.Test.YtjghephnjkffcaaGreatMTreeMakes10
import Derived.Test.YtjghephnjkffcaaGreatMTreeMakes5
import Derived.Test.YtjghephnjkffcaaGreatMTreeMakes2
import Derived.Deep.RegionHeld3
import Derived.Deep.DrawnRows
import Derived.Deep.DeepCutAuto
namespace Go.Proofs.YtjghephnjkffcaaGreat.PAll
open Go.RowKit Go.Proofs.YtjghephnjkffcaaGreatW.PrintWords Go.Proofs.YtjghephnjkffcaaGreatW.PrintLast Go.Proofs.YtjghephnjkffcaaGreatW.PrintMore
attribute [local go_sem] zbY zbW zcm zcl zbG zbF zbX zbV
set_option linter.unusedVariables false
set_option linter.unusedSimpArgs false
theorem zaq {W : World} {g : Nat} {a : Value} {t : TypeId} (h : W.heap[g]? = some (.cells #[a] t (0, 0))) : W.cell? ⟨g, 0, none⟩ = some a := (zad h 0).trans rfl
theorem zb2 {w w' : World} (h : zaP w w') : Below w.heap.size w w' := by
 obtain ⟨nd, rfl⟩ := h
 exact zab (Below.refl _ _) nd
def upto_make (W : World) (n : Nat) : World := { W with heap := W.heap.extract 0 n }
theorem zci {W : World} {n : Nat} (h : n ≤ W.heap.size) : (upto_make W n).heap.size = n := by
 show (W.heap.extract 0 n).size = n
 rw [Array.size_extract]; omega
theorem upto_below_make {W : World} {n : Nat} (h : n ≤ W.heap.size) : Below (upto_make W n).heap.size (upto_make W n) W := by
 refine ⟨rfl, rfl, rfl, by rw [zci h]; exact h, fun k hk => ?_⟩
 rw [zci h] at hk
 show W.heap[k]? = (W.heap.extract 0 n)[k]?
 rw [Array.getElem?_extract, if_pos (by omega), Nat.zero_add]
theorem upto_back_make {W W' w : World} {n : Nat} (h : n ≤ W.heap.size) (hb : Below (upto_make W n).heap.size (upto_make W n) W') (hw : Below w.heap.size w W) (hwn : w.heap.size ≤ n) : Below w.heap.size w W' ∧ ∀ k, k < n → W'.heap[k]? = W.heap[k]? := by
 have h1 : ∀ k, k < n → W'.heap[k]? = W.heap[k]? := fun k hk => by
  have h2 := hb.block k (by rw [zci h]; exact hk)
  rw [h2]
  show (W.heap.extract 0 n)[k]? = W.heap[k]?
  rw [Array.getElem?_extract, if_pos (by omega), Nat.zero_add]
 exact ⟨⟨hb.os.trans hw.os, hb.tape.trans hw.tape, hb.output.trans hw.output, by have := hb.size; rw [zci h] at this; omega, fun k hk => (h1 k (by omega)).trans (hw.block k hk)⟩, h1⟩
set_option maxHeartbeats 8000000 in
set_option maxRecDepth 100000 in
theorem gangwaylaw13_step.make (k : Nat) (A0 : Option Addr) (c0 : Nat) (l : List S40) (a : S44) (AB : Option Addr) (cB : Nat) (w : World) (hr0 : Kd.C k40 w A0 l.length l) (hc0 : l.length ≤ c0)
  (m tm b1 b2 : Bool) (n0 : Int) (r1 : List S40) (e : Int) (hcp : zaX.f k l = some l) (hmy : zau.f k l = some m) (htm : za7.f a.f11 = some tm) (hb1 : zbs.f l a.f1 = some b1) (hb2 : zbs.f l a.f2 = some b2) (heq : zbc.f k l l = some true) (hno : (m && (tm && b2)) = false → e = 100 ∧ r1 = (if m = true then l else []) ∧ n0 = 0) (hrf : (m && (tm && b2)) = true → (e ≠ 0 → MakeNo k l a.f2 a.f4 a.f6 a.f5 e) ∧ (e ≠ 0 → r1 = l ∧ n0 = 0) ∧ (e = 0 → ∃ n : Nat, n0 = (n : Int) ∧ MakeYes k l a.f2 a.f4 a.f6 a.f5 a.f11 n r1)) (hft : zbm.f k l a.f2 a.f4 a.f6 a.f5 a.f11 = some (r1, n0, e)) (hto : zbo.f k r1 e r1 e = some true) (hsp : (∀ x ∈ r1, zaV.f k x.f1 = some ()) ∧ r1.length ≤ 1000000 ∧ ∀ x ∈ r1, x.f2.length ≤ 1000000) :
  Calls Tryz.prog 19 #[.agg #[.slice A0 l.length c0], .agg #[.int .i64 0, .int .i64 a.f1, .int .i64 a.f2, .int .i64 a.f3, .string a.f4, .string a.f5, .int .i64 a.f6, .bool a.f7, .int .i64 a.f8, .int .i64 a.f9, .slice AB a.f10.length cB, .int .i64 a.f11]] w fun e' w' => (∃ (A : Option Addr) (q c : Nat), e' = .returned (.tuple #[.agg #[.slice A q c], .bool true])) ∧ Below w.heap.size w w' := by
 have HR0 := zaa.mk hr0
 have HC0 := zaa.mk hc0
 have HCP := zaa.mk hcp
 have HMY := zaa.mk hmy
 have HTM := zaa.mk htm
 have HB1 := zaa.mk hb1
 have HB2 := zaa.mk hb2
 have HEQ := zaa.mk heq
 have HFT := zaa.mk hft
 have HTO := zaa.mk hto
 have HSP := zaa.mk hsp
 have HWI : zaa (zby.f 0 14 = some 0) := ⟨by kernel_rfl⟩
 have hut := Tryz.underlying24
 have hua := Tryz.underlying44
 have HB := zaa.mk (zac (zac (zac (Below.refl w.heap.size w) (.cells #[.slice A0 l.length c0] 24)) (.cells #[.int .i64 0, .int .i64 a.f1, .int .i64 a.f2, .int .i64 a.f3, .string a.f4, .string a.f5, .int .i64 a.f6, .bool a.f7, .int .i64 a.f8, .int .i64 a.f9, .slice AB a.f10.length cB, .int .i64 a.f11] 44)) (.cells #[.slice none 0 0] 24))
 have H2 := zaa.mk (zah (zah (za8 w (.cells #[.slice A0 l.length c0] 24)) (.cells #[.int .i64 0, .int .i64 a.f1, .int .i64 a.f2, .int .i64 a.f3, .string a.f4, .string a.f5, .int .i64 a.f6, .bool a.f7, .int .i64 a.f8, .int .i64 a.f9, .slice AB a.f10.length cB, .int .i64 a.f11] 44)) (.cells #[.slice none 0 0] 24))
 have H3 := zaa.mk (zah (za8 (w.alloc (.cells #[.slice A0 l.length c0] 24)) (.cells #[.int .i64 0, .int .i64 a.f1, .int .i64 a.f2, .int .i64 a.f3, .string a.f4, .string a.f5, .int .i64 a.f6, .bool a.f7, .int .i64 a.f8, .int .i64 a.f9, .slice AB a.f10.length cB, .int .i64 a.f11] 44)) (.cells #[.slice none 0 0] 24))
 have H4 := zaa.mk (za8 ((w.alloc (.cells #[.slice A0 l.length c0] 24)).alloc (.cells #[.int .i64 0, .int .i64 a.f1, .int .i64 a.f2, .int .i64 a.f3, .string a.f4, .string a.f5, .int .i64 a.f6, .bool a.f7, .int .i64 a.f8, .int .i64 a.f9, .slice AB a.f10.length cB, .int .i64 a.f11] 44)) (.cells #[.slice none 0 0] 24))
 rw [World.size_alloc] at H3
 rw [World.size_alloc, World.size_alloc] at H4
 clear hr0 hc0 hcp hmy htm hb1 hb2 heq hft hto hsp
 have HNO := zaa.mk hno
 have HRQ := zaa.mk hrf
 clear hno hrf
 cases m
 focus
  obtain ⟨he, hr, hn⟩ := HNO.out (by first | rfl | simp)
  have HRW : zaa (r1 = []) := ⟨hr⟩
  subst he
  subst hn
  clear hr HNO HRQ
  have h20 := zaq H2.out
  have ha0 := (zad H3.out 0).trans rfl
  have ha1 := (zad H3.out 1).trans rfl
  have ha2 := (zad H3.out 2).trans rfl
  have ha3 := (zad H3.out 3).trans rfl
  have ha4 := (zad H3.out 4).trans rfl
  have ha5 := (zad H3.out 5).trans rfl
  have ha6 := (zad H3.out 6).trans rfl
  have ha7 := (zad H3.out 7).trans rfl
  have ha8 := (zad H3.out 8).trans rfl
  have ha9 := (zad H3.out 9).trans rfl
  have ha11 := (zad H3.out 11).trans rfl
  go_enter Tryz.func19, Tryz.ntmps19
  go_wp2_with (first | fail)
  refine (zaX.calls k A0 c0 l l _ (Kd.C_below HR0.out HB.out) HC0.out HCP.out).mono ?_
  rintro e' w1 ⟨v, rfl, hS, hb⟩
  obtain ⟨Ai, ci, rfl⟩ := Kd.zbO hS
  have HTI := zaa.mk (Kd.zbD hS HB.out.size)
  clear hS
  clear h20 ha0 ha1 ha2 ha3 ha4 ha5 ha6 ha7 ha8 ha9 ha11
  replace H2 := zaa.mk (zan (by repeat (first | exact H2.out | apply zai | apply zah | apply zak)) hb)
  replace H3 := zaa.mk (zan (by repeat (first | exact H3.out | apply zai | apply zah | apply zak)) hb)
  replace H4 := zaa.mk (zan (by repeat (first | exact H4.out | apply zai | apply zah | apply zak)) hb)
  replace HB := zaa.mk (zam (by repeat (first | exact HB.out | apply zac | apply zab | apply zaf | apply zay)) hb)
  clear hb
  have h20 := zaq H2.out
  have ha0 := (zad H3.out 0).trans rfl
  have ha1 := (zad H3.out 1).trans rfl
  have ha2 := (zad H3.out 2).trans rfl
  have ha3 := (zad H3.out 3).trans rfl
  have ha4 := (zad H3.out 4).trans rfl
  have ha5 := (zad H3.out 5).trans rfl
  have ha6 := (zad H3.out 6).trans rfl
  have ha7 := (zad H3.out 7).trans rfl
  have ha8 := (zad H3.out 8).trans rfl
  have ha9 := (zad H3.out 9).trans rfl
  have ha11 := (zad H3.out 11).trans rfl
  have HLT4 : zaa (w.heap.size + 1 + 1 < w1.heap.size) := ⟨zaF H4.out⟩
  go_upto_region 2 with fail
  clear h20 ha0 ha1 ha2 ha3 ha4 ha5 ha6 ha7 ha8 ha9 ha11
  replace H2 := zaa.mk (zah H2.out (.cells #[.slice Ai l.length ci] 24))
  replace H3 := zaa.mk (zah H3.out (.cells #[.slice Ai l.length ci] 24))
  replace H4 := zaa.mk (zah H4.out (.cells #[.slice Ai l.length ci] 24))
  replace HB := zaa.mk (zac HB.out (.cells #[.slice Ai l.length ci] 24))
  replace HTI := zaa.mk (Kd.za6 HTI.out (zac (Below.refl _ _) (.cells #[.slice Ai l.length ci] 24)))
  have HI := zaa.mk (za8 w1 (.cells #[.slice Ai l.length ci] 24))
  have hg64 : w.heap.size + 1 + 1 < w1.heap.size := HLT4.out
  obtain ⟨g6, hg6⟩ : ∃ g6, g6 = w1.heap.size := ⟨_, rfl⟩
  rw [← hg6] at HI hg64 ⊢
  clear hg6 HLT4
  have h20 := zaq H2.out
  have ha0 := (zad H3.out 0).trans rfl
  have ha1 := (zad H3.out 1).trans rfl
  have ha2 := (zad H3.out 2).trans rfl
  have ha3 := (zad H3.out 3).trans rfl
  have ha4 := (zad H3.out 4).trans rfl
  have ha5 := (zad H3.out 5).trans rfl
  have ha6 := (zad H3.out 6).trans rfl
  have ha7 := (zad H3.out 7).trans rfl
  have ha8 := (zad H3.out 8).trans rfl
  have ha9 := (zad H3.out 9).trans rfl
  have ha11 := (zad H3.out 11).trans rfl
  have hi0 := zaq HI.out
  go_wp2_with (first | fail)
  refine (zau.calls k A0 c0 l false _ (Kd.C_below HR0.out HB.out) HC0.out HMY.out).mono ?_
  rintro e' w2 ⟨rfl, hb⟩
  clear h20 ha0 ha1 ha2 ha3 ha4 ha5 ha6 ha7 ha8 ha9 ha11 hi0
  replace H2 := zaa.mk (zan (by repeat (first | exact H2.out | apply zai | apply zah | apply zak)) hb)
  replace H3 := zaa.mk (zan (by repeat (first | exact H3.out | apply zai | apply zah | apply zak)) hb)
  replace H4 := zaa.mk (zan (by repeat (first | exact H4.out | apply zai | apply zah | apply zak)) hb)
  replace HB := zaa.mk (zam (by repeat (first | exact HB.out | apply zac | apply zab | apply zaf | apply zay)) hb)
  replace HTI := zaa.mk (Kd.za6 HTI.out hb)
  replace HI := zaa.mk (zan (by repeat (first | exact HI.out | apply zai | apply zah | apply zak)) hb)
  clear hb
  have h20 := zaq H2.out
  have ha0 := (zad H3.out 0).trans rfl
  have ha1 := (zad H3.out 1).trans rfl
  have ha2 := (zad H3.out 2).trans rfl
  have ha3 := (zad H3.out 3).trans rfl
  have ha4 := (zad H3.out 4).trans rfl
  have ha5 := (zad H3.out 5).trans rfl
  have ha6 := (zad H3.out 6).trans rfl
  have ha7 := (zad H3.out 7).trans rfl
  have ha8 := (zad H3.out 8).trans rfl
  have ha9 := (zad H3.out 9).trans rfl
  have ha11 := (zad H3.out 11).trans rfl
  have hi0 := zaq HI.out
  have HLT : zaa (g6 < w2.heap.size) := ⟨zaF HI.out⟩
  go_upto_region 6 with fail
  clear h20 ha0 ha1 ha2 ha3 ha4 ha5 ha6 ha7 ha8 ha9 ha11 hi0
  replace H2 := zaa.mk (zah H2.out (.cells #[.slice A0 l.length c0] 24))
  replace H3 := zaa.mk (zah H3.out (.cells #[.slice A0 l.length c0] 24))
  replace H4 := zaa.mk (zah H4.out (.cells #[.slice A0 l.length c0] 24))
  replace HB := zaa.mk (zac HB.out (.cells #[.slice A0 l.length c0] 24))
  replace HTI := zaa.mk (Kd.za6 HTI.out (zac (Below.refl _ _) (.cells #[.slice A0 l.length c0] 24)))
  replace HI := zaa.mk (zah HI.out (.cells #[.slice A0 l.length c0] 24))
  have H10 := zaa.mk (za8 w2 (.cells #[.slice A0 l.length c0] 24))
  have hg10 : g6 < w2.heap.size := HLT.out
  obtain ⟨g10, hgq⟩ : ∃ g10, g10 = w2.heap.size := ⟨_, rfl⟩
  rw [← hgq] at H10 hg10 ⊢
  clear hgq HLT
  have h20 := zaq H2.out
  have ha0 := (zad H3.out 0).trans rfl
  have ha1 := (zad H3.out 1).trans rfl
  have ha2 := (zad H3.out 2).trans rfl
  have ha3 := (zad H3.out 3).trans rfl
  have ha4 := (zad H3.out 4).trans rfl
  have ha5 := (zad H3.out 5).trans rfl
  have ha6 := (zad H3.out 6).trans rfl
  have ha7 := (zad H3.out 7).trans rfl
  have ha8 := (zad H3.out 8).trans rfl
  have ha9 := (zad H3.out 9).trans rfl
  have ha11 := (zad H3.out 11).trans rfl
  have hi0 := zaq HI.out
  have hw0 := zaq H10.out
  have hwf := zae H10.out 0
  go_wp2_with (first | fail)
  refine (zau.calls k A0 c0 l false _ (Kd.C_below HR0.out HB.out) HC0.out HMY.out).mono ?_
  rintro e' w6 ⟨rfl, hb⟩
  clear h20 ha0 ha1 ha2 ha3 ha4 ha5 ha6 ha7 ha8 ha9 ha11 hi0 hw0 hwf
  replace H2 := zaa.mk (zan (by repeat (first | exact H2.out | apply zai | apply zah | apply zak)) hb)
  replace H3 := zaa.mk (zan (by repeat (first | exact H3.out | apply zai | apply zah | apply zak)) hb)
  replace H4 := zaa.mk (zan (by repeat (first | exact H4.out | apply zai | apply zah | apply zak)) hb)
  replace HB := zaa.mk (zam (by repeat (first | exact HB.out | apply zac | apply zab | apply zaf | apply zay)) hb)
  replace HTI := zaa.mk (Kd.za6 HTI.out hb)
  replace HI := zaa.mk (zan (by repeat (first | exact HI.out | apply zai | apply zah | apply zak)) hb)
  replace H10 := zaa.mk (zan (by repeat (first | exact H10.out | apply zai | apply zah | apply zak)) hb)
  clear hb
  have h20 := zaq H2.out
  have ha0 := (zad H3.out 0).trans rfl
  have ha1 := (zad H3.out 1).trans rfl
  have ha2 := (zad H3.out 2).trans rfl
  have ha3 := (zad H3.out 3).trans rfl
  have ha4 := (zad H3.out 4).trans rfl
  have ha5 := (zad H3.out 5).trans rfl
  have ha6 := (zad H3.out 6).trans rfl
  have ha7 := (zad H3.out 7).trans rfl
  have ha8 := (zad H3.out 8).trans rfl
  have ha9 := (zad H3.out 9).trans rfl
  have ha11 := (zad H3.out 11).trans rfl
  have hi0 := zaq HI.out
  have hw0 := zaq H10.out
  have hwf := zae H10.out 0
  go_upto_region 8 with fail
  clear h20 ha0 ha1 ha2 ha3 ha4 ha5 ha6 ha7 ha8 ha9 ha11 hi0 hw0 hwf
  have hput := zaJ H10.out 0 (.slice none 0 0) rfl
  have H2' := zaa.mk (zaH H2.out (p := ⟨g10, 0, none⟩) (by show _ ≠ g10; omega) (.slice none 0 0))
  have H3' := zaa.mk (zaH H3.out (p := ⟨g10, 0, none⟩) (by show _ ≠ g10; omega) (.slice none 0 0))
  have H4' := zaa.mk (zaH H4.out (p := ⟨g10, 0, none⟩) (by show _ ≠ g10; omega) (.slice none 0 0))
  have HB' := zaa.mk (HB.out.setCell (p := ⟨g10, 0, none⟩) (by show _ ≤ g10; omega) (.slice none 0 0))
  have HTI' := zaa.mk (Kd.S_set HTI.out H10.out (by decide) 0 (.slice none 0 0))
  have HI' := zaa.mk (zaH HI.out (p := ⟨g10, 0, none⟩) (by show _ ≠ g10; omega) (.slice none 0 0))
  replace H2 := H2'
  clear H2'
  replace H3 := H3'
  clear H3'
  replace H4 := H4'
  clear H4'
  replace HB := HB'
  clear HB'
  replace HTI := HTI'
  clear HTI'
  replace HI := HI'
  clear HI'
  replace H10 := zaa.mk hput
  clear hput
  have h20 := zaq H2.out
  have ha0 := (zad H3.out 0).trans rfl
  have ha1 := (zad H3.out 1).trans rfl
  have ha2 := (zad H3.out 2).trans rfl
  have ha3 := (zad H3.out 3).trans rfl
  have ha4 := (zad H3.out 4).trans rfl
  have ha5 := (zad H3.out 5).trans rfl
  have ha6 := (zad H3.out 6).trans rfl
  have ha7 := (zad H3.out 7).trans rfl
  have ha8 := (zad H3.out 8).trans rfl
  have ha9 := (zad H3.out 9).trans rfl
  have ha11 := (zad H3.out 11).trans rfl
  have hi0 := zaq HI.out
  have hw0 := zaq H10.out
  have hwf := zae H10.out 0
  have HLT : zaa (g10 < w6.heap.size) := ⟨by have h := zaF H10.out; rwa [World.size_setCell] at h⟩
  go_upto_region 9 with fail
  clear h20 ha0 ha1 ha2 ha3 ha4 ha5 ha6 ha7 ha8 ha9 ha11 hi0 hw0 hwf
  replace H2 := zaa.mk (zah H2.out (.cells #[.slice none 0 0] 24))
  replace H3 := zaa.mk (zah H3.out (.cells #[.slice none 0 0] 24))
  replace H4 := zaa.mk (zah H4.out (.cells #[.slice none 0 0] 24))
  replace HB := zaa.mk (zac HB.out (.cells #[.slice none 0 0] 24))
  replace HTI := zaa.mk (Kd.za6 HTI.out (zac (Below.refl _ _) (.cells #[.slice none 0 0] 24)))
  replace HI := zaa.mk (zah HI.out (.cells #[.slice none 0 0] 24))
  replace H10 := zaa.mk (zah H10.out (.cells #[.slice none 0 0] 24))
  have H12 := zaa.mk (za8 (w6.setCell ⟨g10, 0, none⟩ (.slice none 0 0)) (.cells #[.slice none 0 0] 24))
  rw [World.size_setCell] at H12
  have hg12 : g10 < w6.heap.size := HLT.out
  obtain ⟨g12, hgq⟩ : ∃ g12, g12 = w6.heap.size := ⟨_, rfl⟩
  rw [← hgq] at H12 hg12
  (try rw [← hgq])
  (try simp only [World.size_setCell, ← hgq])
  clear hgq HLT
  have h20 := zaq H2.out
  have ha0 := (zad H3.out 0).trans rfl
  have ha1 := (zad H3.out 1).trans rfl
  have ha2 := (zad H3.out 2).trans rfl
  have ha3 := (zad H3.out 3).trans rfl
  have ha4 := (zad H3.out 4).trans rfl
  have ha5 := (zad H3.out 5).trans rfl
  have ha6 := (zad H3.out 6).trans rfl
  have ha7 := (zad H3.out 7).trans rfl
  have ha8 := (zad H3.out 8).trans rfl
  have ha9 := (zad H3.out 9).trans rfl
  have ha11 := (zad H3.out 11).trans rfl
  have hi0 := zaq HI.out
  have hw0 := zaq H10.out
  have hwf := zae H10.out 0
  have hx0 := zaq H12.out
  have hxf := zae H12.out 0
  go_wp2_with fail
  refine (zby.calls _ 14 _ _ HWI.out).mono ?_
  rintro e' w7 ⟨rfl, hd⟩
  have hb := zb2 hd
  clear hd
  clear h20 ha0 ha1 ha2 ha3 ha4 ha5 ha6 ha7 ha8 ha9 ha11 hi0 hw0 hwf hx0 hxf
  replace H2 := zaa.mk (zan (by repeat (first | exact H2.out | apply zai | apply zah | apply zak)) hb)
  replace H3 := zaa.mk (zan (by repeat (first | exact H3.out | apply zai | apply zah | apply zak)) hb)
  replace H4 := zaa.mk (zan (by repeat (first | exact H4.out | apply zai | apply zah | apply zak)) hb)
  replace HB := zaa.mk (zam (by repeat (first | exact HB.out | apply zac | apply zab | apply zaf | apply zay)) hb)
  replace HTI := zaa.mk (Kd.za6 HTI.out hb)
  replace HI := zaa.mk (zan (by repeat (first | exact HI.out | apply zai | apply zah | apply zak)) hb)
  replace H10 := zaa.mk (zan (by repeat (first | exact H10.out | apply zai | apply zah | apply zak)) hb)
  replace H12 := zaa.mk (zan (by repeat (first | exact H12.out | apply zai | apply zah | apply zak)) hb)
  clear hb
  have h20 := zaq H2.out
  have ha0 := (zad H3.out 0).trans rfl
  have ha1 := (zad H3.out 1).trans rfl
  have ha2 := (zad H3.out 2).trans rfl
  have ha3 := (zad H3.out 3).trans rfl
  have ha4 := (zad H3.out 4).trans rfl
  have ha5 := (zad H3.out 5).trans rfl
  have ha6 := (zad H3.out 6).trans rfl
  have ha7 := (zad H3.out 7).trans rfl
  have ha8 := (zad H3.out 8).trans rfl
  have ha9 := (zad H3.out 9).trans rfl
  have ha11 := (zad H3.out 11).trans rfl
  have hi0 := zaq HI.out
  have hw0 := zaq H10.out
  have hwf := zae H10.out 0
  have hx0 := zaq H12.out
  have hxf := zae H12.out 0
  go_upto_region 14 with fail
  clear h20 ha0 ha1 ha2 ha3 ha4 ha5 ha6 ha7 ha8 ha9 ha11 hi0 hw0 hwf hx0 hxf
  obtain ⟨wz, hwz⟩ : ∃ wz, wz = w7 := ⟨_, rfl⟩
  rw [← hwz] at H2 H3 H4 HB HTI HI H10 H12 ⊢
  clear hwz
  have HEX : zaa (∃ (Aw : Option Addr) (cw : Nat), zaa (wz.heap[g10]? = some (.cells #[.slice Aw r1.length cw] 24 (0, 0))) ∧ zaa ((∀ W : World, Below w.heap.size w W → (∀ q, q < wz.heap.size → q ≠ g12 → W.heap[q]? = wz.heap[q]?) → Kd.C k40 W Aw r1.length r1) ∧ r1.length ≤ cw)) := ⟨⟨none, 0, ⟨by rw [HRW.out]; exact H10.out⟩, ⟨fun W _ _ => by rw [HRW.out]; exact Kd.C_nil _ _, by rw [HRW.out]; exact Nat.le_refl _⟩⟩⟩
  clear H10
  obtain ⟨Aw, cw, H10, HWC⟩ := HEX.out
  clear HEX HRW
 rotate_left 1
 focus
  cases tm
  focus
   obtain ⟨he, hr, hn⟩ := HNO.out (by first | rfl | simp)
   have HRW : zaa (r1 = l) := ⟨hr⟩
   subst he
   subst hn
   clear hr HNO HRQ
   have h20 := zaq H2.out
   have ha0 := (zad H3.out 0).trans rfl
   have ha1 := (zad H3.out 1).trans rfl
   have ha2 := (zad H3.out 2).trans rfl
   have ha3 := (zad H3.out 3).trans rfl
   have ha4 := (zad H3.out 4).trans rfl
   have ha5 := (zad H3.out 5).trans rfl
   have ha6 := (zad H3.out 6).trans rfl
   have ha7 := (zad H3.out 7).trans rfl
   have ha8 := (zad H3.out 8).trans rfl
   have ha9 := (zad H3.out 9).trans rfl
   have ha11 := (zad H3.out 11).trans rfl
   go_enter Tryz.func19, Tryz.ntmps19
   go_wp2_with (first | fail)
   refine (zaX.calls k A0 c0 l l _ (Kd.C_below HR0.out HB.out) HC0.out HCP.out).mono ?_
   rintro e' w1 ⟨v, rfl, hS, hb⟩
   obtain ⟨Ai, ci, rfl⟩ := Kd.zbO hS
   have HTI := zaa.mk (Kd.zbD hS HB.out.size)
   clear hS
   clear h20 ha0 ha1 ha2 ha3 ha4 ha5 ha6 ha7 ha8 ha9 ha11
   replace H2 := zaa.mk (zan (by repeat (first | exact H2.out | apply zai | apply zah | apply zak)) hb)
   replace H3 := zaa.mk (zan (by repeat (first | exact H3.out | apply zai | apply zah | apply zak)) hb)
   replace H4 := zaa.mk (zan (by repeat (first | exact H4.out | apply zai | apply zah | apply zak)) hb)
   replace HB := zaa.mk (zam (by repeat (first | exact HB.out | apply zac | apply zab | apply zaf | apply zay)) hb)
   clear hb
   have h20 := zaq H2.out
   have ha0 := (zad H3.out 0).trans rfl
   have ha1 := (zad H3.out 1).trans rfl
   have ha2 := (zad H3.out 2).trans rfl
   have ha3 := (zad H3.out 3).trans rfl
   have ha4 := (zad H3.out 4).trans rfl
   have ha5 := (zad H3.out 5).trans rfl
   have ha6 := (zad H3.out 6).trans rfl
   have ha7 := (zad H3.out 7).trans rfl
   have ha8 := (zad H3.out 8).trans rfl
   have ha9 := (zad H3.out 9).trans rfl
   have ha11 := (zad H3.out 11).trans rfl
   have HLT4 : zaa (w.heap.size + 1 + 1 < w1.heap.size) := ⟨zaF H4.out⟩
   go_upto_region 2 with fail
   clear h20 ha0 ha1 ha2 ha3 ha4 ha5 ha6 ha7 ha8 ha9 ha11
   replace H2 := zaa.mk (zah H2.out (.cells #[.slice Ai l.length ci] 24))
   replace H3 := zaa.mk (zah H3.out (.cells #[.slice Ai l.length ci] 24))
   replace H4 := zaa.mk (zah H4.out (.cells #[.slice Ai l.length ci] 24))
   replace HB := zaa.mk (zac HB.out (.cells #[.slice Ai l.length ci] 24))
   replace HTI := zaa.mk (Kd.za6 HTI.out (zac (Below.refl _ _) (.cells #[.slice Ai l.length ci] 24)))
   have HI := zaa.mk (za8 w1 (.cells #[.slice Ai l.length ci] 24))
   have hg64 : w.heap.size + 1 + 1 < w1.heap.size := HLT4.out
   obtain ⟨g6, hg6⟩ : ∃ g6, g6 = w1.heap.size := ⟨_, rfl⟩
   rw [← hg6] at HI hg64 ⊢
   clear hg6 HLT4
   have h20 := zaq H2.out
   have ha0 := (zad H3.out 0).trans rfl
   have ha1 := (zad H3.out 1).trans rfl
   have ha2 := (zad H3.out 2).trans rfl
   have ha3 := (zad H3.out 3).trans rfl
   have ha4 := (zad H3.out 4).trans rfl
   have ha5 := (zad H3.out 5).trans rfl
   have ha6 := (zad H3.out 6).trans rfl
   have ha7 := (zad H3.out 7).trans rfl
   have ha8 := (zad H3.out 8).trans rfl
   have ha9 := (zad H3.out 9).trans rfl
   have ha11 := (zad H3.out 11).trans rfl
   have hi0 := zaq HI.out
   go_wp2_with (first | fail)
   refine (zau.calls k A0 c0 l true _ (Kd.C_below HR0.out HB.out) HC0.out HMY.out).mono ?_
   rintro e' w2 ⟨rfl, hb⟩
   clear h20 ha0 ha1 ha2 ha3 ha4 ha5 ha6 ha7 ha8 ha9 ha11 hi0
   replace H2 := zaa.mk (zan (by repeat (first | exact H2.out | apply zai | apply zah | apply zak)) hb)
   replace H3 := zaa.mk (zan (by repeat (first | exact H3.out | apply zai | apply zah | apply zak)) hb)
   replace H4 := zaa.mk (zan (by repeat (first | exact H4.out | apply zai | apply zah | apply zak)) hb)
   replace HB := zaa.mk (zam (by repeat (first | exact HB.out | apply zac | apply zab | apply zaf | apply zay)) hb)
   replace HTI := zaa.mk (Kd.za6 HTI.out hb)
   replace HI := zaa.mk (zan (by repeat (first | exact HI.out | apply zai | apply zah | apply zak)) hb)
   clear hb
   have h20 := zaq H2.out
   have ha0 := (zad H3.out 0).trans rfl
   have ha1 := (zad H3.out 1).trans rfl
   have ha2 := (zad H3.out 2).trans rfl
   have ha3 := (zad H3.out 3).trans rfl
   have ha4 := (zad H3.out 4).trans rfl
   have ha5 := (zad H3.out 5).trans rfl
   have ha6 := (zad H3.out 6).trans rfl
   have ha7 := (zad H3.out 7).trans rfl
   have ha8 := (zad H3.out 8).trans rfl
   have ha9 := (zad H3.out 9).trans rfl
   have ha11 := (zad H3.out 11).trans rfl
   have hi0 := zaq HI.out
   go_wp2_with fail
   refine (za7.calls a.f11 _ _ HTM.out).mono ?_
   rintro e' w3 ⟨rfl, hd⟩
   have hb := zb2 hd
   clear hd
   clear h20 ha0 ha1 ha2 ha3 ha4 ha5 ha6 ha7 ha8 ha9 ha11 hi0
   replace H2 := zaa.mk (zan (by repeat (first | exact H2.out | apply zai | apply zah | apply zak)) hb)
   replace H3 := zaa.mk (zan (by repeat (first | exact H3.out | apply zai | apply zah | apply zak)) hb)
   replace H4 := zaa.mk (zan (by repeat (first | exact H4.out | apply zai | apply zah | apply zak)) hb)
   replace HB := zaa.mk (zam (by repeat (first | exact HB.out | apply zac | apply zab | apply zaf | apply zay)) hb)
   replace HTI := zaa.mk (Kd.za6 HTI.out hb)
   replace HI := zaa.mk (zan (by repeat (first | exact HI.out | apply zai | apply zah | apply zak)) hb)
   clear hb
   have h20 := zaq H2.out
   have ha0 := (zad H3.out 0).trans rfl
   have ha1 := (zad H3.out 1).trans rfl
   have ha2 := (zad H3.out 2).trans rfl
   have ha3 := (zad H3.out 3).trans rfl
   have ha4 := (zad H3.out 4).trans rfl
   have ha5 := (zad H3.out 5).trans rfl
   have ha6 := (zad H3.out 6).trans rfl
   have ha7 := (zad H3.out 7).trans rfl
   have ha8 := (zad H3.out 8).trans rfl
   have ha9 := (zad H3.out 9).trans rfl
   have ha11 := (zad H3.out 11).trans rfl
   have hi0 := zaq HI.out
   have HLT : zaa (g6 < w3.heap.size) := ⟨zaF HI.out⟩
   go_upto_region 6 with fail
   clear h20 ha0 ha1 ha2 ha3 ha4 ha5 ha6 ha7 ha8 ha9 ha11 hi0
   replace H2 := zaa.mk (zah H2.out (.cells #[.slice A0 l.length c0] 24))
   replace H3 := zaa.mk (zah H3.out (.cells #[.slice A0 l.length c0] 24))
   replace H4 := zaa.mk (zah H4.out (.cells #[.slice A0 l.length c0] 24))
   replace HB := zaa.mk (zac HB.out (.cells #[.slice A0 l.length c0] 24))
   replace HTI := zaa.mk (Kd.za6 HTI.out (zac (Below.refl _ _) (.cells #[.slice A0 l.length c0] 24)))
   replace HI := zaa.mk (zah HI.out (.cells #[.slice A0 l.length c0] 24))
   have H10 := zaa.mk (za8 w3 (.cells #[.slice A0 l.length c0] 24))
   have hg10 : g6 < w3.heap.size := HLT.out
   obtain ⟨g10, hgq⟩ : ∃ g10, g10 = w3.heap.size := ⟨_, rfl⟩
   rw [← hgq] at H10 hg10 ⊢
   clear hgq HLT
   have h20 := zaq H2.out
   have ha0 := (zad H3.out 0).trans rfl
   have ha1 := (zad H3.out 1).trans rfl
   have ha2 := (zad H3.out 2).trans rfl
   have ha3 := (zad H3.out 3).trans rfl
   have ha4 := (zad H3.out 4).trans rfl
   have ha5 := (zad H3.out 5).trans rfl
   have ha6 := (zad H3.out 6).trans rfl
   have ha7 := (zad H3.out 7).trans rfl
   have ha8 := (zad H3.out 8).trans rfl
   have ha9 := (zad H3.out 9).trans rfl
   have ha11 := (zad H3.out 11).trans rfl
   have hi0 := zaq HI.out
   have hw0 := zaq H10.out
   have hwf := zae H10.out 0
   go_wp2_with (first | fail)
   refine (zau.calls k A0 c0 l true _ (Kd.C_below HR0.out HB.out) HC0.out HMY.out).mono ?_
   rintro e' w6 ⟨rfl, hb⟩
   clear h20 ha0 ha1 ha2 ha3 ha4 ha5 ha6 ha7 ha8 ha9 ha11 hi0 hw0 hwf
   replace H2 := zaa.mk (zan (by repeat (first | exact H2.out | apply zai | apply zah | apply zak)) hb)
   replace H3 := zaa.mk (zan (by repeat (first | exact H3.out | apply zai | apply zah | apply zak)) hb)
   replace H4 := zaa.mk (zan (by repeat (first | exact H4.out | apply zai | apply zah | apply zak)) hb)
   replace HB := zaa.mk (zam (by repeat (first | exact HB.out | apply zac | apply zab | apply zaf | apply zay)) hb)
   replace HTI := zaa.mk (Kd.za6 HTI.out hb)
   replace HI := zaa.mk (zan (by repeat (first | exact HI.out | apply zai | apply zah | apply zak)) hb)
   replace H10 := zaa.mk (zan (by repeat (first | exact H10.out | apply zai | apply zah | apply zak)) hb)
   clear hb
   have h20 := zaq H2.out
   have ha0 := (zad H3.out 0).trans rfl
   have ha1 := (zad H3.out 1).trans rfl
   have ha2 := (zad H3.out 2).trans rfl
   have ha3 := (zad H3.out 3).trans rfl
   have ha4 := (zad H3.out 4).trans rfl
   have ha5 := (zad H3.out 5).trans rfl
   have ha6 := (zad H3.out 6).trans rfl
   have ha7 := (zad H3.out 7).trans rfl
   have ha8 := (zad H3.out 8).trans rfl
   have ha9 := (zad H3.out 9).trans rfl
   have ha11 := (zad H3.out 11).trans rfl
   have hi0 := zaq HI.out
   have hw0 := zaq H10.out
   have hwf := zae H10.out 0
   have HLT : zaa (g10 < w6.heap.size) := ⟨zaF H10.out⟩
   go_upto_region 9 with fail
   clear h20 ha0 ha1 ha2 ha3 ha4 ha5 ha6 ha7 ha8 ha9 ha11 hi0 hw0 hwf
   replace H2 := zaa.mk (zah H2.out (.cells #[.slice none 0 0] 24))
   replace H3 := zaa.mk (zah H3.out (.cells #[.slice none 0 0] 24))
   replace H4 := zaa.mk (zah H4.out (.cells #[.slice none 0 0] 24))
   replace HB := zaa.mk (zac HB.out (.cells #[.slice none 0 0] 24))
   replace HTI := zaa.mk (Kd.za6 HTI.out (zac (Below.refl _ _) (.cells #[.slice none 0 0] 24)))
   replace HI := zaa.mk (zah HI.out (.cells #[.slice none 0 0] 24))
   replace H10 := zaa.mk (zah H10.out (.cells #[.slice none 0 0] 24))
   have H12 := zaa.mk (za8 w6 (.cells #[.slice none 0 0] 24))
   have hg12 : g10 < w6.heap.size := HLT.out
   obtain ⟨g12, hgq⟩ : ∃ g12, g12 = w6.heap.size := ⟨_, rfl⟩
   rw [← hgq] at H12 hg12
   (try rw [← hgq])
   (try simp only [World.size_setCell, ← hgq])
   clear hgq HLT
   have h20 := zaq H2.out
   have ha0 := (zad H3.out 0).trans rfl
   have ha1 := (zad H3.out 1).trans rfl
   have ha2 := (zad H3.out 2).trans rfl
   have ha3 := (zad H3.out 3).trans rfl
   have ha4 := (zad H3.out 4).trans rfl
   have ha5 := (zad H3.out 5).trans rfl
   have ha6 := (zad H3.out 6).trans rfl
   have ha7 := (zad H3.out 7).trans rfl
   have ha8 := (zad H3.out 8).trans rfl
   have ha9 := (zad H3.out 9).trans rfl
   have ha11 := (zad H3.out 11).trans rfl
   have hi0 := zaq HI.out
   have hw0 := zaq H10.out
   have hwf := zae H10.out 0
   have hx0 := zaq H12.out
   have hxf := zae H12.out 0
   go_wp2_with fail
   refine (zby.calls _ 14 _ _ HWI.out).mono ?_
   rintro e' w7 ⟨rfl, hd⟩
   have hb := zb2 hd
   clear hd
   clear h20 ha0 ha1 ha2 ha3 ha4 ha5 ha6 ha7 ha8 ha9 ha11 hi0 hw0 hwf hx0 hxf
   replace H2 := zaa.mk (zan (by repeat (first | exact H2.out | apply zai | apply zah | apply zak)) hb)
   replace H3 := zaa.mk (zan (by repeat (first | exact H3.out | apply zai | apply zah | apply zak)) hb)
   replace H4 := zaa.mk (zan (by repeat (first | exact H4.out | apply zai | apply zah | apply zak)) hb)
   replace HB := zaa.mk (zam (by repeat (first | exact HB.out | apply zac | apply zab | apply zaf | apply zay)) hb)
   replace HTI := zaa.mk (Kd.za6 HTI.out hb)
   replace HI := zaa.mk (zan (by repeat (first | exact HI.out | apply zai | apply zah | apply zak)) hb)
   replace H10 := zaa.mk (zan (by repeat (first | exact H10.out | apply zai | apply zah | apply zak)) hb)
   replace H12 := zaa.mk (zan (by repeat (first | exact H12.out | apply zai | apply zah | apply zak)) hb)
   clear hb
   have h20 := zaq H2.out
   have ha0 := (zad H3.out 0).trans rfl
   have ha1 := (zad H3.out 1).trans rfl
   have ha2 := (zad H3.out 2).trans rfl
   have ha3 := (zad H3.out 3).trans rfl
   have ha4 := (zad H3.out 4).trans rfl
   have ha5 := (zad H3.out 5).trans rfl
   have ha6 := (zad H3.out 6).trans rfl
   have ha7 := (zad H3.out 7).trans rfl
   have ha8 := (zad H3.out 8).trans rfl
   have ha9 := (zad H3.out 9).trans rfl
   have ha11 := (zad H3.out 11).trans rfl
   have hi0 := zaq HI.out
   have hw0 := zaq H10.out
   have hwf := zae H10.out 0
   have hx0 := zaq H12.out
   have hxf := zae H12.out 0
   go_upto_region 14 with fail
   clear h20 ha0 ha1 ha2 ha3 ha4 ha5 ha6 ha7 ha8 ha9 ha11 hi0 hw0 hwf hx0 hxf
   obtain ⟨wz, hwz⟩ : ∃ wz, wz = w7 := ⟨_, rfl⟩
   rw [← hwz] at H2 H3 H4 HB HTI HI H10 H12 ⊢
   clear hwz
   have HEX : zaa (∃ (Aw : Option Addr) (cw : Nat), zaa (wz.heap[g10]? = some (.cells #[.slice Aw r1.length cw] 24 (0, 0))) ∧ zaa ((∀ W : World, Below w.heap.size w W → (∀ q, q < wz.heap.size → q ≠ g12 → W.heap[q]? = wz.heap[q]?) → Kd.C k40 W Aw r1.length r1) ∧ r1.length ≤ cw)) := ⟨⟨A0, c0, ⟨by rw [HRW.out]; exact H10.out⟩, ⟨fun W hb _ => by rw [HRW.out]; exact Kd.C_below HR0.out hb, by rw [HRW.out]; exact HC0.out⟩⟩⟩
   clear H10
   obtain ⟨Aw, cw, H10, HWC⟩ := HEX.out
   clear HEX HRW
  rotate_left 1
  focus
   have h20 := zaq H2.out
   have ha0 := (zad H3.out 0).trans rfl
   have ha1 := (zad H3.out 1).trans rfl
   have ha2 := (zad H3.out 2).trans rfl
   have ha3 := (zad H3.out 3).trans rfl
   have ha4 := (zad H3.out 4).trans rfl
   have ha5 := (zad H3.out 5).trans rfl
   have ha6 := (zad H3.out 6).trans rfl
   have ha7 := (zad H3.out 7).trans rfl
   have ha8 := (zad H3.out 8).trans rfl
   have ha9 := (zad H3.out 9).trans rfl
   have ha11 := (zad H3.out 11).trans rfl
   go_enter Tryz.func19, Tryz.ntmps19
   go_wp2_with (first | fail)
   refine (zaX.calls k A0 c0 l l _ (Kd.C_below HR0.out HB.out) HC0.out HCP.out).mono ?_
   rintro e' w1 ⟨v, rfl, hS, hb⟩
   obtain ⟨Ai, ci, rfl⟩ := Kd.zbO hS
   have HTI := zaa.mk (Kd.zbD hS HB.out.size)
   clear hS
   clear h20 ha0 ha1 ha2 ha3 ha4 ha5 ha6 ha7 ha8 ha9 ha11
   replace H2 := zaa.mk (zan (by repeat (first | exact H2.out | apply zai | apply zah | apply zak)) hb)
   replace H3 := zaa.mk (zan (by repeat (first | exact H3.out | apply zai | apply zah | apply zak)) hb)
   replace H4 := zaa.mk (zan (by repeat (first | exact H4.out | apply zai | apply zah | apply zak)) hb)
   replace HB := zaa.mk (zam (by repeat (first | exact HB.out | apply zac | apply zab | apply zaf | apply zay)) hb)
   clear hb
   have h20 := zaq H2.out
   have ha0 := (zad H3.out 0).trans rfl
   have ha1 := (zad H3.out 1).trans rfl
   have ha2 := (zad H3.out 2).trans rfl
   have ha3 := (zad H3.out 3).trans rfl
   have ha4 := (zad H3.out 4).trans rfl
   have ha5 := (zad H3.out 5).trans rfl
   have ha6 := (zad H3.out 6).trans rfl
   have ha7 := (zad H3.out 7).trans rfl
   have ha8 := (zad H3.out 8).trans rfl
   have ha9 := (zad H3.out 9).trans rfl
   have ha11 := (zad H3.out 11).trans rfl
   have HLT4 : zaa (w.heap.size + 1 + 1 < w1.heap.size) := ⟨zaF H4.out⟩
   go_upto_region 2 with fail
   clear h20 ha0 ha1 ha2 ha3 ha4 ha5 ha6 ha7 ha8 ha9 ha11
   replace H2 := zaa.mk (zah H2.out (.cells #[.slice Ai l.length ci] 24))
   replace H3 := zaa.mk (zah H3.out (.cells #[.slice Ai l.length ci] 24))
   replace H4 := zaa.mk (zah H4.out (.cells #[.slice Ai l.length ci] 24))
   replace HB := zaa.mk (zac HB.out (.cells #[.slice Ai l.length ci] 24))
   replace HTI := zaa.mk (Kd.za6 HTI.out (zac (Below.refl _ _) (.cells #[.slice Ai l.length ci] 24)))
   have HI := zaa.mk (za8 w1 (.cells #[.slice Ai l.length ci] 24))
   have hg64 : w.heap.size + 1 + 1 < w1.heap.size := HLT4.out
   obtain ⟨g6, hg6⟩ : ∃ g6, g6 = w1.heap.size := ⟨_, rfl⟩
   rw [← hg6] at HI hg64 ⊢
   clear hg6 HLT4
   have h20 := zaq H2.out
   have ha0 := (zad H3.out 0).trans rfl
   have ha1 := (zad H3.out 1).trans rfl
   have ha2 := (zad H3.out 2).trans rfl
   have ha3 := (zad H3.out 3).trans rfl
   have ha4 := (zad H3.out 4).trans rfl
   have ha5 := (zad H3.out 5).trans rfl
   have ha6 := (zad H3.out 6).trans rfl
   have ha7 := (zad H3.out 7).trans rfl
   have ha8 := (zad H3.out 8).trans rfl
   have ha9 := (zad H3.out 9).trans rfl
   have ha11 := (zad H3.out 11).trans rfl
   have hi0 := zaq HI.out
   go_wp2_with (first | fail)
   refine (zau.calls k A0 c0 l true _ (Kd.C_below HR0.out HB.out) HC0.out HMY.out).mono ?_
   rintro e' w2 ⟨rfl, hb⟩
   clear h20 ha0 ha1 ha2 ha3 ha4 ha5 ha6 ha7 ha8 ha9 ha11 hi0
   replace H2 := zaa.mk (zan (by repeat (first | exact H2.out | apply zai | apply zah | apply zak)) hb)
   replace H3 := zaa.mk (zan (by repeat (first | exact H3.out | apply zai | apply zah | apply zak)) hb)
   replace H4 := zaa.mk (zan (by repeat (first | exact H4.out | apply zai | apply zah | apply zak)) hb)
   replace HB := zaa.mk (zam (by repeat (first | exact HB.out | apply zac | apply zab | apply zaf | apply zay)) hb)
   replace HTI := zaa.mk (Kd.za6 HTI.out hb)
   replace HI := zaa.mk (zan (by repeat (first | exact HI.out | apply zai | apply zah | apply zak)) hb)
   clear hb
   have h20 := zaq H2.out
   have ha0 := (zad H3.out 0).trans rfl
   have ha1 := (zad H3.out 1).trans rfl
   have ha2 := (zad H3.out 2).trans rfl
   have ha3 := (zad H3.out 3).trans rfl
   have ha4 := (zad H3.out 4).trans rfl
   have ha5 := (zad H3.out 5).trans rfl
   have ha6 := (zad H3.out 6).trans rfl
   have ha7 := (zad H3.out 7).trans rfl
   have ha8 := (zad H3.out 8).trans rfl
   have ha9 := (zad H3.out 9).trans rfl
   have ha11 := (zad H3.out 11).trans rfl
   have hi0 := zaq HI.out
   go_wp2_with fail
   refine (za7.calls a.f11 _ _ HTM.out).mono ?_
   rintro e' w3 ⟨rfl, hd⟩
   have hb := zb2 hd
   clear hd
   clear h20 ha0 ha1 ha2 ha3 ha4 ha5 ha6 ha7 ha8 ha9 ha11 hi0
   replace H2 := zaa.mk (zan (by repeat (first | exact H2.out | apply zai | apply zah | apply zak)) hb)
   replace H3 := zaa.mk (zan (by repeat (first | exact H3.out | apply zai | apply zah | apply zak)) hb)
   replace H4 := zaa.mk (zan (by repeat (first | exact H4.out | apply zai | apply zah | apply zak)) hb)
   replace HB := zaa.mk (zam (by repeat (first | exact HB.out | apply zac | apply zab | apply zaf | apply zay)) hb)
   replace HTI := zaa.mk (Kd.za6 HTI.out hb)
   replace HI := zaa.mk (zan (by repeat (first | exact HI.out | apply zai | apply zah | apply zak)) hb)
   clear hb
   have h20 := zaq H2.out
   have ha0 := (zad H3.out 0).trans rfl
   have ha1 := (zad H3.out 1).trans rfl
   have ha2 := (zad H3.out 2).trans rfl
   have ha3 := (zad H3.out 3).trans rfl
   have ha4 := (zad H3.out 4).trans rfl
   have ha5 := (zad H3.out 5).trans rfl
   have ha6 := (zad H3.out 6).trans rfl
   have ha7 := (zad H3.out 7).trans rfl
   have ha8 := (zad H3.out 8).trans rfl
   have ha9 := (zad H3.out 9).trans rfl
   have ha11 := (zad H3.out 11).trans rfl
   have hi0 := zaq HI.out
   go_wp2_with (first | fail)
   refine (zbs.calls A0 c0 l a.f1 b1 _ (Kd.C_below HR0.out HB.out) HC0.out HB1.out).mono ?_
   rintro e' w4 ⟨rfl, hb⟩
   clear h20 ha0 ha1 ha2 ha3 ha4 ha5 ha6 ha7 ha8 ha9 ha11 hi0
   replace H2 := zaa.mk (zan (by repeat (first | exact H2.out | apply zai | apply zah | apply zak)) hb)
   replace H3 := zaa.mk (zan (by repeat (first | exact H3.out | apply zai | apply zah | apply zak)) hb)
   replace H4 := zaa.mk (zan (by repeat (first | exact H4.out | apply zai | apply zah | apply zak)) hb)
   replace HB := zaa.mk (zam (by repeat (first | exact HB.out | apply zac | apply zab | apply zaf | apply zay)) hb)
   replace HTI := zaa.mk (Kd.za6 HTI.out hb)
   replace HI := zaa.mk (zan (by repeat (first | exact HI.out | apply zai | apply zah | apply zak)) hb)
   clear hb
   have h20 := zaq H2.out
   have ha0 := (zad H3.out 0).trans rfl
   have ha1 := (zad H3.out 1).trans rfl
   have ha2 := (zad H3.out 2).trans rfl
   have ha3 := (zad H3.out 3).trans rfl
   have ha4 := (zad H3.out 4).trans rfl
   have ha5 := (zad H3.out 5).trans rfl
   have ha6 := (zad H3.out 6).trans rfl
   have ha7 := (zad H3.out 7).trans rfl
   have ha8 := (zad H3.out 8).trans rfl
   have ha9 := (zad H3.out 9).trans rfl
   have ha11 := (zad H3.out 11).trans rfl
   have hi0 := zaq HI.out
   go_wp2_with (first | fail)
   refine (zbs.calls A0 c0 l a.f2 b2 _ (Kd.C_below HR0.out HB.out) HC0.out HB2.out).mono ?_
   rintro e' w5 ⟨rfl, hb⟩
   clear h20 ha0 ha1 ha2 ha3 ha4 ha5 ha6 ha7 ha8 ha9 ha11 hi0
   replace H2 := zaa.mk (zan (by repeat (first | exact H2.out | apply zai | apply zah | apply zak)) hb)
   replace H3 := zaa.mk (zan (by repeat (first | exact H3.out | apply zai | apply zah | apply zak)) hb)
   replace H4 := zaa.mk (zan (by repeat (first | exact H4.out | apply zai | apply zah | apply zak)) hb)
   replace HB := zaa.mk (zam (by repeat (first | exact HB.out | apply zac | apply zab | apply zaf | apply zay)) hb)
   replace HTI := zaa.mk (Kd.za6 HTI.out hb)
   replace HI := zaa.mk (zan (by repeat (first | exact HI.out | apply zai | apply zah | apply zak)) hb)
   clear hb
   have h20 := zaq H2.out
   have ha0 := (zad H3.out 0).trans rfl
   have ha1 := (zad H3.out 1).trans rfl
   have ha2 := (zad H3.out 2).trans rfl
   have ha3 := (zad H3.out 3).trans rfl
   have ha4 := (zad H3.out 4).trans rfl
   have ha5 := (zad H3.out 5).trans rfl
   have ha6 := (zad H3.out 6).trans rfl
   have ha7 := (zad H3.out 7).trans rfl
   have ha8 := (zad H3.out 8).trans rfl
   have ha9 := (zad H3.out 9).trans rfl
   have ha11 := (zad H3.out 11).trans rfl
   have hi0 := zaq HI.out
   have HLT : zaa (g6 < w5.heap.size) := ⟨zaF HI.out⟩
   go_upto_region 6 with fail
   clear h20 ha0 ha1 ha2 ha3 ha4 ha5 ha6 ha7 ha8 ha9 ha11 hi0
   replace H2 := zaa.mk (zah H2.out (.cells #[.slice A0 l.length c0] 24))
   replace H3 := zaa.mk (zah H3.out (.cells #[.slice A0 l.length c0] 24))
   replace H4 := zaa.mk (zah H4.out (.cells #[.slice A0 l.length c0] 24))
   replace HB := zaa.mk (zac HB.out (.cells #[.slice A0 l.length c0] 24))
   replace HTI := zaa.mk (Kd.za6 HTI.out (zac (Below.refl _ _) (.cells #[.slice A0 l.length c0] 24)))
   replace HI := zaa.mk (zah HI.out (.cells #[.slice A0 l.length c0] 24))
   have H10 := zaa.mk (za8 w5 (.cells #[.slice A0 l.length c0] 24))
   have hg10 : g6 < w5.heap.size := HLT.out
   obtain ⟨g10, hgq⟩ : ∃ g10, g10 = w5.heap.size := ⟨_, rfl⟩
   rw [← hgq] at H10 hg10 ⊢
   clear hgq HLT
   have h20 := zaq H2.out
   have ha0 := (zad H3.out 0).trans rfl
   have ha1 := (zad H3.out 1).trans rfl
   have ha2 := (zad H3.out 2).trans rfl
   have ha3 := (zad H3.out 3).trans rfl
   have ha4 := (zad H3.out 4).trans rfl
   have ha5 := (zad H3.out 5).trans rfl
   have ha6 := (zad H3.out 6).trans rfl
   have ha7 := (zad H3.out 7).trans rfl
   have ha8 := (zad H3.out 8).trans rfl
   have ha9 := (zad H3.out 9).trans rfl
   have ha11 := (zad H3.out 11).trans rfl
   have hi0 := zaq HI.out
   have hw0 := zaq H10.out
   have hwf := zae H10.out 0
   go_wp2_with (first | fail)
   refine (zau.calls k A0 c0 l true _ (Kd.C_below HR0.out HB.out) HC0.out HMY.out).mono ?_
   rintro e' w6 ⟨rfl, hb⟩
   clear h20 ha0 ha1 ha2 ha3 ha4 ha5 ha6 ha7 ha8 ha9 ha11 hi0 hw0 hwf
   replace H2 := zaa.mk (zan (by repeat (first | exact H2.out | apply zai | apply zah | apply zak)) hb)
   replace H3 := zaa.mk (zan (by repeat (first | exact H3.out | apply zai | apply zah | apply zak)) hb)
   replace H4 := zaa.mk (zan (by repeat (first | exact H4.out | apply zai | apply zah | apply zak)) hb)
   replace HB := zaa.mk (zam (by repeat (first | exact HB.out | apply zac | apply zab | apply zaf | apply zay)) hb)
   replace HTI := zaa.mk (Kd.za6 HTI.out hb)
   replace HI := zaa.mk (zan (by repeat (first | exact HI.out | apply zai | apply zah | apply zak)) hb)
   replace H10 := zaa.mk (zan (by repeat (first | exact H10.out | apply zai | apply zah | apply zak)) hb)
   clear hb
   have h20 := zaq H2.out
   have ha0 := (zad H3.out 0).trans rfl
   have ha1 := (zad H3.out 1).trans rfl
   have ha2 := (zad H3.out 2).trans rfl
   have ha3 := (zad H3.out 3).trans rfl
   have ha4 := (zad H3.out 4).trans rfl
   have ha5 := (zad H3.out 5).trans rfl
   have ha6 := (zad H3.out 6).trans rfl
   have ha7 := (zad H3.out 7).trans rfl
   have ha8 := (zad H3.out 8).trans rfl
   have ha9 := (zad H3.out 9).trans rfl
   have ha11 := (zad H3.out 11).trans rfl
   have hi0 := zaq HI.out
   have hw0 := zaq H10.out
   have hwf := zae H10.out 0
   have HLT : zaa (g10 < w6.heap.size) := ⟨zaF H10.out⟩
   go_upto_region 9 with fail
   clear h20 ha0 ha1 ha2 ha3 ha4 ha5 ha6 ha7 ha8 ha9 ha11 hi0 hw0 hwf
   replace H2 := zaa.mk (zah H2.out (.cells #[.slice none 0 0] 24))
   replace H3 := zaa.mk (zah H3.out (.cells #[.slice none 0 0] 24))
   replace H4 := zaa.mk (zah H4.out (.cells #[.slice none 0 0] 24))
   replace HB := zaa.mk (zac HB.out (.cells #[.slice none 0 0] 24))
   replace HTI := zaa.mk (Kd.za6 HTI.out (zac (Below.refl _ _) (.cells #[.slice none 0 0] 24)))
   replace HI := zaa.mk (zah HI.out (.cells #[.slice none 0 0] 24))
   replace H10 := zaa.mk (zah H10.out (.cells #[.slice none 0 0] 24))
   have H12 := zaa.mk (za8 w6 (.cells #[.slice none 0 0] 24))
   have hg12 : g10 < w6.heap.size := HLT.out
   obtain ⟨g12, hgq⟩ : ∃ g12, g12 = w6.heap.size := ⟨_, rfl⟩
   rw [← hgq] at H12 hg12
   (try rw [← hgq])
   (try simp only [World.size_setCell, ← hgq])
   clear hgq HLT
   have h20 := zaq H2.out
   have ha0 := (zad H3.out 0).trans rfl
   have ha1 := (zad H3.out 1).trans rfl
   have ha2 := (zad H3.out 2).trans rfl
   have ha3 := (zad H3.out 3).trans rfl
   have ha4 := (zad H3.out 4).trans rfl
   have ha5 := (zad H3.out 5).trans rfl
   have ha6 := (zad H3.out 6).trans rfl
   have ha7 := (zad H3.out 7).trans rfl
   have ha8 := (zad H3.out 8).trans rfl
   have ha9 := (zad H3.out 9).trans rfl
   have ha11 := (zad H3.out 11).trans rfl
   have hi0 := zaq HI.out
   have hw0 := zaq H10.out
   have hwf := zae H10.out 0
   have hx0 := zaq H12.out
   have hxf := zae H12.out 0
   go_wp2_with fail
   refine (zby.calls _ 14 _ _ HWI.out).mono ?_
   rintro e' w7 ⟨rfl, hd⟩
   have hb := zb2 hd
   clear hd
   clear h20 ha0 ha1 ha2 ha3 ha4 ha5 ha6 ha7 ha8 ha9 ha11 hi0 hw0 hwf hx0 hxf
   replace H2 := zaa.mk (zan (by repeat (first | exact H2.out | apply zai | apply zah | apply zak)) hb)
   replace H3 := zaa.mk (zan (by repeat (first | exact H3.out | apply zai | apply zah | apply zak)) hb)
   replace H4 := zaa.mk (zan (by repeat (first | exact H4.out | apply zai | apply zah | apply zak)) hb)
   replace HB := zaa.mk (zam (by repeat (first | exact HB.out | apply zac | apply zab | apply zaf | apply zay)) hb)
   replace HTI := zaa.mk (Kd.za6 HTI.out hb)
   replace HI := zaa.mk (zan (by repeat (first | exact HI.out | apply zai | apply zah | apply zak)) hb)
   replace H10 := zaa.mk (zan (by repeat (first | exact H10.out | apply zai | apply zah | apply zak)) hb)
   replace H12 := zaa.mk (zan (by repeat (first | exact H12.out | apply zai | apply zah | apply zak)) hb)
   clear hb
   have h20 := zaq H2.out
   have ha0 := (zad H3.out 0).trans rfl
   have ha1 := (zad H3.out 1).trans rfl
   have ha2 := (zad H3.out 2).trans rfl
   have ha3 := (zad H3.out 3).trans rfl
   have ha4 := (zad H3.out 4).trans rfl
   have ha5 := (zad H3.out 5).trans rfl
   have ha6 := (zad H3.out 6).trans rfl
   have ha7 := (zad H3.out 7).trans rfl
   have ha8 := (zad H3.out 8).trans rfl
   have ha9 := (zad H3.out 9).trans rfl
   have ha11 := (zad H3.out 11).trans rfl
   have hi0 := zaq HI.out
   have hw0 := zaq H10.out
   have hwf := zae H10.out 0
   have hx0 := zaq H12.out
   have hxf := zae H12.out 0
   cases b2
   focus
    obtain ⟨he, hr, hn⟩ := HNO.out (by first | rfl | simp)
    have HRW : zaa (r1 = l) := ⟨hr⟩
    subst he
    subst hn
    clear hr HNO HRQ
    go_upto_region 14 with fail
    clear h20 ha0 ha1 ha2 ha3 ha4 ha5 ha6 ha7 ha8 ha9 ha11 hi0 hw0 hwf hx0 hxf
    obtain ⟨wz, hwz⟩ : ∃ wz, wz = w7 := ⟨_, rfl⟩
    rw [← hwz] at H2 H3 H4 HB HTI HI H10 H12 ⊢
    clear hwz
    have HEX : zaa (∃ (Aw : Option Addr) (cw : Nat), zaa (wz.heap[g10]? = some (.cells #[.slice Aw r1.length cw] 24 (0, 0))) ∧ zaa ((∀ W : World, Below w.heap.size w W → (∀ q, q < wz.heap.size → q ≠ g12 → W.heap[q]? = wz.heap[q]?) → Kd.C k40 W Aw r1.length r1) ∧ r1.length ≤ cw)) := ⟨⟨A0, c0, ⟨by rw [HRW.out]; exact H10.out⟩, ⟨fun W hb _ => by rw [HRW.out]; exact Kd.C_below HR0.out hb, by rw [HRW.out]; exact HC0.out⟩⟩⟩
    clear H10
    obtain ⟨Aw, cw, H10, HWC⟩ := HEX.out
    clear HEX HRW
   rotate_left 1
   focus
    by_cases z : e = 0
    focus
     subst z
     obtain ⟨h1, h2, h3⟩ := HRQ.out (by first | rfl | simp)
     have HRF := zaa.mk h1
     have HGD := zaa.mk (h3 rfl)
     clear h1 h2 h3 HNO HRQ
     obtain ⟨n, hn, hg⟩ := HGD.out
     have HGE := zaa.mk hg
     subst hn
     clear hg
     go_wp2_with (first | fail)
     refine (zbg.oks k A0 c0 l a.f2 a.f4 a.f6 a.f5 a.f11 n r1 _ (Kd.C_below HR0.out HB.out) HC0.out HCP.out HGE.out).mono ?_
     rintro e' w8 ⟨Aw, cw, rfl, hS, hb⟩
     have HW := zaa.mk (Kd.zbD hS HB.out.size)
     clear hS
     clear h20 ha0 ha1 ha2 ha3 ha4 ha5 ha6 ha7 ha8 ha9 ha11 hi0 hw0 hwf hx0 hxf
     replace H2 := zaa.mk (zan (by repeat (first | exact H2.out | apply zai | apply zah | apply zak)) hb)
     replace H3 := zaa.mk (zan (by repeat (first | exact H3.out | apply zai | apply zah | apply zak)) hb)
     replace H4 := zaa.mk (zan (by repeat (first | exact H4.out | apply zai | apply zah | apply zak)) hb)
     replace HB := zaa.mk (zam (by repeat (first | exact HB.out | apply zac | apply zab | apply zaf | apply zay)) hb)
     replace HTI := zaa.mk (Kd.za6 HTI.out hb)
     replace HI := zaa.mk (zan (by repeat (first | exact HI.out | apply zai | apply zah | apply zak)) hb)
     replace H10 := zaa.mk (zan (by repeat (first | exact H10.out | apply zai | apply zah | apply zak)) hb)
     replace H12 := zaa.mk (zan (by repeat (first | exact H12.out | apply zai | apply zah | apply zak)) hb)
     clear hb
     have h20 := zaq H2.out
     have ha0 := (zad H3.out 0).trans rfl
     have ha1 := (zad H3.out 1).trans rfl
     have ha2 := (zad H3.out 2).trans rfl
     have ha3 := (zad H3.out 3).trans rfl
     have ha4 := (zad H3.out 4).trans rfl
     have ha5 := (zad H3.out 5).trans rfl
     have ha6 := (zad H3.out 6).trans rfl
     have ha7 := (zad H3.out 7).trans rfl
     have ha8 := (zad H3.out 8).trans rfl
     have ha9 := (zad H3.out 9).trans rfl
     have ha11 := (zad H3.out 11).trans rfl
     have hi0 := zaq HI.out
     have hw0 := zaq H10.out
     have hwf := zae H10.out 0
     have hx0 := zaq H12.out
     have hxf := zae H12.out 0
     go_upto_region 14 with fail
     clear h20 ha0 ha1 ha2 ha3 ha4 ha5 ha6 ha7 ha8 ha9 ha11 hi0 hw0 hwf hx0 hxf
     have hput := zaJ H10.out 0 (.slice Aw r1.length cw) rfl
     have H2' := zaa.mk (zaH H2.out (p := ⟨g10, 0, none⟩) (by show _ ≠ g10; omega) (.slice Aw r1.length cw))
     have H3' := zaa.mk (zaH H3.out (p := ⟨g10, 0, none⟩) (by show _ ≠ g10; omega) (.slice Aw r1.length cw))
     have H4' := zaa.mk (zaH H4.out (p := ⟨g10, 0, none⟩) (by show _ ≠ g10; omega) (.slice Aw r1.length cw))
     have HB' := zaa.mk (HB.out.setCell (p := ⟨g10, 0, none⟩) (by show _ ≤ g10; omega) (.slice Aw r1.length cw))
     have HTI' := zaa.mk (Kd.S_set HTI.out H10.out (by decide) 0 (.slice Aw r1.length cw))
     have HI' := zaa.mk (zaH HI.out (p := ⟨g10, 0, none⟩) (by show _ ≠ g10; omega) (.slice Aw r1.length cw))
     have H12' := zaa.mk (zaH H12.out (p := ⟨g10, 0, none⟩) (by show _ ≠ g10; omega) (.slice Aw r1.length cw))
     have HW' := zaa.mk (Kd.S_set HW.out H10.out (by decide) 0 (.slice Aw r1.length cw))
     replace H2 := H2'
     clear H2'
     replace H3 := H3'
     clear H3'
     replace H4 := H4'
     clear H4'
     replace HB := HB'
     clear HB'
     replace HTI := HTI'
     clear HTI'
     replace HI := HI'
     clear HI'
     replace H12 := H12'
     clear H12'
     replace HW := HW'
     clear HW'
     replace H10 := zaa.mk hput
     clear hput
     obtain ⟨wz, hwz⟩ : ∃ wz, wz = (w8.setCell ⟨g10, 0, none⟩ (.slice Aw r1.length cw)) := ⟨_, rfl⟩
     rw [← hwz] at H2 H3 H4 HB HTI HI H10 H12 HW ⊢
     clear hwz
     have HEX : zaa (∃ (Aw : Option Addr) (cw : Nat), zaa (wz.heap[g10]? = some (.cells #[.slice Aw r1.length cw] 24 (0, 0))) ∧ zaa ((∀ W : World, Below w.heap.size w W → (∀ q, q < wz.heap.size → q ≠ g12 → W.heap[q]? = wz.heap[q]?) → Kd.C k40 W Aw r1.length r1) ∧ r1.length ≤ cw)) := ⟨⟨Aw, cw, H10, ⟨fun W _ hk => (Kd.zbw (Kd.S_step (Kd.S_types HW.out H12.out (by decide)) (fun q hq hlt => hk q hlt hq.2))).2.2, (Kd.zbw HW.out).2.1⟩⟩⟩
     clear HW H10
     obtain ⟨Aw, cw, H10, HWC⟩ := HEX.out
     clear HEX
    rotate_left 1
    focus
     obtain ⟨h1, h2, h3⟩ := HRQ.out (by first | rfl | simp)
     have HRF := zaa.mk h1
     have HZ := zaa.mk z
     have hn := (h2 z).2
     subst hn
     have HRW : zaa (r1 = l) := ⟨(h2 z).1⟩
     clear h1 h2 h3 z HNO HRQ
     go_wp2_with (first | fail)
     refine (zbg.nos k A0 c0 l a.f2 a.f4 a.f6 a.f5 a.f11 e _ (Kd.C_below HR0.out HB.out) HC0.out (HRF.out HZ.out)).mono ?_
     rintro e' w8 ⟨rfl, hb⟩
     clear h20 ha0 ha1 ha2 ha3 ha4 ha5 ha6 ha7 ha8 ha9 ha11 hi0 hw0 hwf hx0 hxf
     replace H2 := zaa.mk (zan (by repeat (first | exact H2.out | apply zai | apply zah | apply zak)) hb)
     replace H3 := zaa.mk (zan (by repeat (first | exact H3.out | apply zai | apply zah | apply zak)) hb)
     replace H4 := zaa.mk (zan (by repeat (first | exact H4.out | apply zai | apply zah | apply zak)) hb)
     replace HB := zaa.mk (zam (by repeat (first | exact HB.out | apply zac | apply zab | apply zaf | apply zay)) hb)
     replace HTI := zaa.mk (Kd.za6 HTI.out hb)
     replace HI := zaa.mk (zan (by repeat (first | exact HI.out | apply zai | apply zah | apply zak)) hb)
     replace H10 := zaa.mk (zan (by repeat (first | exact H10.out | apply zai | apply zah | apply zak)) hb)
     replace H12 := zaa.mk (zan (by repeat (first | exact H12.out | apply zai | apply zah | apply zak)) hb)
     clear hb
     have h20 := zaq H2.out
     have ha0 := (zad H3.out 0).trans rfl
     have ha1 := (zad H3.out 1).trans rfl
     have ha2 := (zad H3.out 2).trans rfl
     have ha3 := (zad H3.out 3).trans rfl
     have ha4 := (zad H3.out 4).trans rfl
     have ha5 := (zad H3.out 5).trans rfl
     have ha6 := (zad H3.out 6).trans rfl
     have ha7 := (zad H3.out 7).trans rfl
     have ha8 := (zad H3.out 8).trans rfl
     have ha9 := (zad H3.out 9).trans rfl
     have ha11 := (zad H3.out 11).trans rfl
     have hi0 := zaq HI.out
     have hw0 := zaq H10.out
     have hwf := zae H10.out 0
     have hx0 := zaq H12.out
     have hxf := zae H12.out 0
     go_upto_region 14 with fail
     clear h20 ha0 ha1 ha2 ha3 ha4 ha5 ha6 ha7 ha8 ha9 ha11 hi0 hw0 hwf hx0 hxf
     have hput := zaJ H10.out 0 (.slice A0 l.length c0) rfl
     have H2' := zaa.mk (zaH H2.out (p := ⟨g10, 0, none⟩) (by show _ ≠ g10; omega) (.slice A0 l.length c0))
     have H3' := zaa.mk (zaH H3.out (p := ⟨g10, 0, none⟩) (by show _ ≠ g10; omega) (.slice A0 l.length c0))
     have H4' := zaa.mk (zaH H4.out (p := ⟨g10, 0, none⟩) (by show _ ≠ g10; omega) (.slice A0 l.length c0))
     have HB' := zaa.mk (HB.out.setCell (p := ⟨g10, 0, none⟩) (by show _ ≤ g10; omega) (.slice A0 l.length c0))
     have HTI' := zaa.mk (Kd.S_set HTI.out H10.out (by decide) 0 (.slice A0 l.length c0))
     have HI' := zaa.mk (zaH HI.out (p := ⟨g10, 0, none⟩) (by show _ ≠ g10; omega) (.slice A0 l.length c0))
     have H12' := zaa.mk (zaH H12.out (p := ⟨g10, 0, none⟩) (by show _ ≠ g10; omega) (.slice A0 l.length c0))
     replace H2 := H2'
     clear H2'
     replace H3 := H3'
     clear H3'
     replace H4 := H4'
     clear H4'
     replace HB := HB'
     clear HB'
     replace HTI := HTI'
     clear HTI'
     replace HI := HI'
     clear HI'
     replace H12 := H12'
     clear H12'
     replace H10 := zaa.mk hput
     clear hput
     obtain ⟨wz, hwz⟩ : ∃ wz, wz = (w8.setCell ⟨g10, 0, none⟩ (.slice A0 l.length c0)) := ⟨_, rfl⟩
     rw [← hwz] at H2 H3 H4 HB HTI HI H10 H12 ⊢
     clear hwz
     have HEX : zaa (∃ (Aw : Option Addr) (cw : Nat), zaa (wz.heap[g10]? = some (.cells #[.slice Aw r1.length cw] 24 (0, 0))) ∧ zaa ((∀ W : World, Below w.heap.size w W → (∀ q, q < wz.heap.size → q ≠ g12 → W.heap[q]? = wz.heap[q]?) → Kd.C k40 W Aw r1.length r1) ∧ r1.length ≤ cw)) := ⟨⟨A0, c0, ⟨by rw [HRW.out]; exact H10.out⟩, ⟨fun W hb _ => by rw [HRW.out]; exact Kd.C_below HR0.out hb, by rw [HRW.out]; exact HC0.out⟩⟩⟩
     clear H10
     obtain ⟨Aw, cw, H10, HWC⟩ := HEX.out
     clear HEX HRW
 all_goals
  as_aux_lemma =>
   have h20 := zaq H2.out
   have ha0 := (zad H3.out 0).trans rfl
   have ha1 := (zad H3.out 1).trans rfl
   have ha2 := (zad H3.out 2).trans rfl
   have ha3 := (zad H3.out 3).trans rfl
   have ha4 := (zad H3.out 4).trans rfl
   have ha5 := (zad H3.out 5).trans rfl
   have ha6 := (zad H3.out 6).trans rfl
   have ha7 := (zad H3.out 7).trans rfl
   have ha8 := (zad H3.out 8).trans rfl
   have ha9 := (zad H3.out 9).trans rfl
   have ha11 := (zad H3.out 11).trans rfl
   have hi0 := zaq HI.out
   have hw0 := zaq H10.out
   have hwf := zae H10.out 0
   have hx0 := zaq H12.out
   have hxf := zae H12.out 0
   have HN1 : zaa (w.heap.size + 1 + 1 < g6 ∧ g6 < g10 ∧ g10 < g12) := ⟨by omega, by omega, by omega⟩
   go_wp2_with fail
   have HG12 : zaa (g12 < wz.heap.size) := ⟨zaF H12.out⟩
   have HTJ := zaa.mk (Kd.zbn (ok' := fun k => k < wz.heap.size) (Kd.S_bound HTI.out) (fun k hk => hk.2.2.1))
   refine (zbm.calls k Ai ci l a.f2 a.f4 a.f6 a.f5 a.f11 r1 _ _ _ (Kd.zbw HTI.out).2.2 (Kd.zbw HTI.out).2.1 HFT.out).mono ?_
   rintro e' w10 ⟨vx, rfl, hS, hb⟩
   obtain ⟨Ax, cx, rfl⟩ := Kd.zbO hS
   have HX := zaa.mk hS
   have HWZ := zaa.mk hb
   clear hS
   clear h20 ha0 ha1 ha2 ha3 ha4 ha5 ha6 ha7 ha8 ha9 ha11 hi0 hw0 hwf hx0 hxf
   replace H2 := zaa.mk (zan (by repeat (first | exact H2.out | apply zai | apply zah | apply zak)) hb)
   replace H3 := zaa.mk (zan (by repeat (first | exact H3.out | apply zai | apply zah | apply zak)) hb)
   replace H4 := zaa.mk (zan (by repeat (first | exact H4.out | apply zai | apply zah | apply zak)) hb)
   replace HB := zaa.mk (zam (by repeat (first | exact HB.out | apply zac | apply zab | apply zaf | apply zay)) hb)
   replace HTI := zaa.mk (Kd.za6 HTI.out hb)
   replace HI := zaa.mk (zan (by repeat (first | exact HI.out | apply zai | apply zah | apply zak)) hb)
   replace H10 := zaa.mk (zan (by repeat (first | exact H10.out | apply zai | apply zah | apply zak)) hb)
   replace H12 := zaa.mk (zan (by repeat (first | exact H12.out | apply zai | apply zah | apply zak)) hb)
   replace HTJ := zaa.mk (Kd.za6 HTJ.out hb)
   clear hb
   obtain ⟨N0, hN0⟩ : ∃ N0, N0 = wz.heap.size := ⟨_, rfl⟩
   rw [← hN0] at HG12 HX HTJ
   have HNB : zaa (N0 ≤ w10.heap.size) := ⟨by rw [hN0]; exact HWZ.out.size⟩
   clear hN0
   have h20 := zaq H2.out
   have ha0 := (zad H3.out 0).trans rfl
   have ha1 := (zad H3.out 1).trans rfl
   have ha2 := (zad H3.out 2).trans rfl
   have ha3 := (zad H3.out 3).trans rfl
   have ha4 := (zad H3.out 4).trans rfl
   have ha5 := (zad H3.out 5).trans rfl
   have ha6 := (zad H3.out 6).trans rfl
   have ha7 := (zad H3.out 7).trans rfl
   have ha8 := (zad H3.out 8).trans rfl
   have ha9 := (zad H3.out 9).trans rfl
   have ha11 := (zad H3.out 11).trans rfl
   have hi0 := zaq HI.out
   have hw0 := zaq H10.out
   have hwf := zae H10.out 0
   have hx0 := zaq H12.out
   have hxf := zae H12.out 0
   go_upto_region 65 with fail
   clear h20 ha0 ha1 ha2 ha3 ha4 ha5 ha6 ha7 ha8 ha9 ha11 hi0 hw0 hwf hx0 hxf
   have hput := zaJ H12.out 0 (.slice Ax r1.length cx) rfl
   have H2' := zaa.mk (zaH H2.out (p := ⟨g12, 0, none⟩) (by show _ ≠ g12; omega) (.slice Ax r1.length cx))
   have H3' := zaa.mk (zaH H3.out (p := ⟨g12, 0, none⟩) (by show _ ≠ g12; omega) (.slice Ax r1.length cx))
   have H4' := zaa.mk (zaH H4.out (p := ⟨g12, 0, none⟩) (by show _ ≠ g12; omega) (.slice Ax r1.length cx))
   have HB' := zaa.mk (HB.out.setCell (p := ⟨g12, 0, none⟩) (by show _ ≤ g12; omega) (.slice Ax r1.length cx))
   have HTI' := zaa.mk (Kd.S_set HTI.out H12.out (by decide) 0 (.slice Ax r1.length cx))
   have HI' := zaa.mk (zaH HI.out (p := ⟨g12, 0, none⟩) (by show _ ≠ g12; omega) (.slice Ax r1.length cx))
   have H10' := zaa.mk (zaH H10.out (p := ⟨g12, 0, none⟩) (by show _ ≠ g12; omega) (.slice Ax r1.length cx))
   have HTJ' := zaa.mk (Kd.S_set HTJ.out H12.out (by decide) 0 (.slice Ax r1.length cx))
   have HX' := zaa.mk (Kd.S_set HX.out H12.out (by decide) 0 (.slice Ax r1.length cx))
   replace H2 := H2'
   clear H2'
   replace H3 := H3'
   clear H3'
   replace H4 := H4'
   clear H4'
   replace HB := HB'
   clear HB'
   replace HTI := HTI'
   clear HTI'
   replace HI := HI'
   clear HI'
   replace H10 := H10'
   clear H10'
   replace HTJ := HTJ'
   clear HTJ'
   replace HX := HX'
   clear HX'
   replace H12 := zaa.mk hput
   clear hput
   have h20 := zaq H2.out
   have ha0 := (zad H3.out 0).trans rfl
   have ha1 := (zad H3.out 1).trans rfl
   have ha2 := (zad H3.out 2).trans rfl
   have ha3 := (zad H3.out 3).trans rfl
   have ha4 := (zad H3.out 4).trans rfl
   have ha5 := (zad H3.out 5).trans rfl
   have ha6 := (zad H3.out 6).trans rfl
   have ha7 := (zad H3.out 7).trans rfl
   have ha8 := (zad H3.out 8).trans rfl
   have ha9 := (zad H3.out 9).trans rfl
   have ha11 := (zad H3.out 11).trans rfl
   have hi0 := zaq HI.out
   have hw0 := zaq H10.out
   have hwf := zae H10.out 0
   have hx0 := zaq H12.out
   have hxf := zae H12.out 0
   go_wp2_with fail
   refine (zbo.calls k Ax cx r1 _ Aw cw r1 _ true _ (Kd.zbw HX.out).2.2 (Kd.zbw HX.out).2.1 (HWC.out.1 _ HB.out (fun q hq hne => (Below.heap_setCell _ _ _ q hne).trans (HWZ.out.block q hq))) HWC.out.2 HTO.out).mono ?_
   rintro e' w11 ⟨rfl, hb⟩
   have HN3 : zaa (N0 ≤ w11.heap.size) := ⟨Nat.le_trans (by rw [World.size_setCell]; exact HNB.out) hb.size⟩
   clear HWC HWZ
   clear h20 ha0 ha1 ha2 ha3 ha4 ha5 ha6 ha7 ha8 ha9 ha11 hi0 hw0 hwf hx0 hxf
   replace H2 := zaa.mk (zan (by repeat (first | exact H2.out | apply zai | apply zah | apply zak)) hb)
   replace H3 := zaa.mk (zan (by repeat (first | exact H3.out | apply zai | apply zah | apply zak)) hb)
   replace H4 := zaa.mk (zan (by repeat (first | exact H4.out | apply zai | apply zah | apply zak)) hb)
   replace HB := zaa.mk (zam (by repeat (first | exact HB.out | apply zac | apply zab | apply zaf | apply zay)) hb)
   replace HTI := zaa.mk (Kd.za6 HTI.out hb)
   replace HI := zaa.mk (zan (by repeat (first | exact HI.out | apply zai | apply zah | apply zak)) hb)
   replace H10 := zaa.mk (zan (by repeat (first | exact H10.out | apply zai | apply zah | apply zak)) hb)
   replace H12 := zaa.mk (zan (by repeat (first | exact H12.out | apply zai | apply zah | apply zak)) hb)
   replace HTJ := zaa.mk (Kd.za6 HTJ.out hb)
   replace HX := zaa.mk (Kd.za6 HX.out hb)
   clear hb
   have h20 := zaq H2.out
   have ha0 := (zad H3.out 0).trans rfl
   have ha1 := (zad H3.out 1).trans rfl
   have ha2 := (zad H3.out 2).trans rfl
   have ha3 := (zad H3.out 3).trans rfl
   have ha4 := (zad H3.out 4).trans rfl
   have ha5 := (zad H3.out 5).trans rfl
   have ha6 := (zad H3.out 6).trans rfl
   have ha7 := (zad H3.out 7).trans rfl
   have ha8 := (zad H3.out 8).trans rfl
   have ha9 := (zad H3.out 9).trans rfl
   have ha11 := (zad H3.out 11).trans rfl
   have hi0 := zaq HI.out
   have hw0 := zaq H10.out
   have hwf := zae H10.out 0
   have hx0 := zaq H12.out
   have hxf := zae H12.out 0
   go_wp2_with fail
   refine (zbc.calls k Ai ci l A0 c0 l true _ (Kd.zbw HTI.out).2.2 (Kd.zbw HTI.out).2.1 (Kd.C_below HR0.out HB.out) HC0.out HEQ.out).mono ?_
   rintro e' w12 ⟨rfl, hb⟩
   have HN4 : zaa (N0 ≤ w12.heap.size) := ⟨Nat.le_trans HN3.out hb.size⟩
   clear h20 ha0 ha1 ha2 ha3 ha4 ha5 ha6 ha7 ha8 ha9 ha11 hi0 hw0 hwf hx0 hxf
   replace H2 := zaa.mk (zan (by repeat (first | exact H2.out | apply zai | apply zah | apply zak)) hb)
   replace H3 := zaa.mk (zan (by repeat (first | exact H3.out | apply zai | apply zah | apply zak)) hb)
   replace H4 := zaa.mk (zan (by repeat (first | exact H4.out | apply zai | apply zah | apply zak)) hb)
   replace HB := zaa.mk (zam (by repeat (first | exact HB.out | apply zac | apply zab | apply zaf | apply zay)) hb)
   replace HTI := zaa.mk (Kd.za6 HTI.out hb)
   replace HI := zaa.mk (zan (by repeat (first | exact HI.out | apply zai | apply zah | apply zak)) hb)
   replace H10 := zaa.mk (zan (by repeat (first | exact H10.out | apply zai | apply zah | apply zak)) hb)
   replace H12 := zaa.mk (zan (by repeat (first | exact H12.out | apply zai | apply zah | apply zak)) hb)
   replace HTJ := zaa.mk (Kd.za6 HTJ.out hb)
   replace HX := zaa.mk (Kd.za6 HX.out hb)
   clear hb
   have h20 := zaq H2.out
   have ha0 := (zad H3.out 0).trans rfl
   have ha1 := (zad H3.out 1).trans rfl
   have ha2 := (zad H3.out 2).trans rfl
   have ha3 := (zad H3.out 3).trans rfl
   have ha4 := (zad H3.out 4).trans rfl
   have ha5 := (zad H3.out 5).trans rfl
   have ha6 := (zad H3.out 6).trans rfl
   have ha7 := (zad H3.out 7).trans rfl
   have ha8 := (zad H3.out 8).trans rfl
   have ha9 := (zad H3.out 9).trans rfl
   have ha11 := (zad H3.out 11).trans rfl
   have hi0 := zaq HI.out
   have hw0 := zaq H10.out
   have hwf := zae H10.out 0
   have hx0 := zaq H12.out
   have hxf := zae H12.out 0
   go_wp2_with fail
   refine (tree_spoil k _ r1 (upto_make w12 N0) w12 (upto_below_make HN4.out) (by rw [zci HN4.out]; exact HX.out) HSP.out.1 HSP.out.2.1 HSP.out.2.2).mono ?_
   rintro e' w13 ⟨rfl, hb⟩
   clear h20 ha0 ha1 ha2 ha3 ha4 ha5 ha6 ha7 ha8 ha9 ha11 hi0 hw0 hwf hx0 hxf
   obtain ⟨hbw, hk⟩ := upto_back_make HN4.out hb HB.out (by have := HN1.out; have := HG12.out; omega)
   replace H2 := zaa.mk ((hk _ (show w.heap.size < N0 by have := HN1.out; have := HG12.out; omega)).trans H2.out)
   replace H3 := zaa.mk ((hk _ (show w.heap.size + 1 < N0 by have := HN1.out; have := HG12.out; omega)).trans H3.out)
   replace H4 := zaa.mk ((hk _ (show w.heap.size + 1 + 1 < N0 by have := HN1.out; have := HG12.out; omega)).trans H4.out)
   replace HI := zaa.mk ((hk _ (show g6 < N0 by have := HN1.out; have := HG12.out; omega)).trans HI.out)
   replace H10 := zaa.mk ((hk _ (show g10 < N0 by have := HN1.out; have := HG12.out; omega)).trans H10.out)
   replace HTI := zaa.mk (Kd.S_step HTJ.out (fun k hok _ => hk k hok))
   replace HB := zaa.mk hbw
   clear hbw hb hk HTJ HX
   have h20 := zaq H2.out
   have ha0 := (zad H3.out 0).trans rfl
   have ha1 := (zad H3.out 1).trans rfl
   have ha2 := (zad H3.out 2).trans rfl
   have ha3 := (zad H3.out 3).trans rfl
   have ha4 := (zad H3.out 4).trans rfl
   have ha5 := (zad H3.out 5).trans rfl
   have ha6 := (zad H3.out 6).trans rfl
   have ha7 := (zad H3.out 7).trans rfl
   have ha8 := (zad H3.out 8).trans rfl
   have ha9 := (zad H3.out 9).trans rfl
   have ha11 := (zad H3.out 11).trans rfl
   have hi0 := zaq HI.out
   have hw0 := zaq H10.out
   have hwf := zae H10.out 0
   go_upto_region 67 with fail
   refine start_ (n := 9) (S := fun w' => w'.cell? ⟨g10, 0, none⟩ = some (.slice Aw r1.length cw) ∧ w'.cell? ⟨w.heap.size, 0, none⟩ = some (.slice A0 l.length c0) ∧ w'.cell? ⟨g6, 0, none⟩ = some (.slice Ai l.length ci)) (ds := [7]) #[false, false, false, false, false, false, false, false, false] (by kernel_rfl) rfl rfl ⟨hw0, h20, hi0⟩ (fun hHeld => ?_)
   refine pure_ (i := 1) (N := some 418) (v := ?_) (a' := ?_) #[false, true, false, false, false, false, false, false, false] rfl rfl (by kernel_rfl) (fun _ _ _ h => h) (Or.inl ⟨by rfl, ?_⟩) ?_ ?_
   rotate_left
   ·intro w'
    go_simp
    with_reducible rfl
   rotate_left
   ·simp only [Act.put, List.setIfInBounds_toArray, List.set_cons_zero, List.set_cons_succ, zcb, zcf]
    rfl
   refine pure_ (i := 2) (N := some 419) (v := ?_) (a' := ?_) #[false, true, true, false, false, false, false, false, false] rfl rfl (by kernel_rfl) (fun _ _ _ h => h) (Or.inl ⟨by rfl, ?_⟩) ?_ ?_
   rotate_left
   ·intro w'
    go_simp
    with_reducible rfl
   rotate_left
   ·simp only [Act.put, List.setIfInBounds_toArray, List.set_cons_zero, List.set_cons_succ, zcb, zcf]
    rfl
   refine take_ (i := 0) (N := some 417) (v := ?_) (a' := ?_) #[true, true, true, false, false, false, false, false, false] rfl rfl (by kernel_rfl) (fun _ _ _ h => h) (Or.inl ⟨by rfl, ?_⟩) hHeld ?_ ?_
   rotate_left
   ·rintro w' ⟨s0, s1, s2⟩
    go_simp
    with_reducible rfl
   rotate_left
   ·simp only [Act.put, List.setIfInBounds_toArray, List.set_cons_zero, List.set_cons_succ, zcb, zcf]
    rfl
   refine take_ (i := 3) (N := some 420) (v := ?_) (a' := ?_) #[true, true, true, true, false, false, false, false, false] rfl rfl (by kernel_rfl) (fun _ _ _ h => h) (Or.inl ⟨by rfl, ?_⟩) hHeld ?_ ?_
   rotate_left
   ·rintro w' ⟨s0, s1, s2⟩
    go_simp
    with_reducible rfl
   rotate_left
   ·simp only [Act.put, List.setIfInBounds_toArray, List.set_cons_zero, List.set_cons_succ, zcb, zcf]
    rfl
   refine take_ (i := 4) (N := some 421) (v := ?_) (a' := ?_) #[true, true, true, true, true, false, false, false, false] rfl rfl (by kernel_rfl) (fun _ _ _ h => h) (Or.inl ⟨by rfl, ?_⟩) hHeld ?_ ?_
   rotate_left
   ·rintro w' ⟨s0, s1, s2⟩
    go_simp
    with_reducible rfl
   rotate_left
   ·simp only [Act.put, List.setIfInBounds_toArray, List.set_cons_zero, List.set_cons_succ, zcb, zcf]
    rfl
   refine one_ (i := 5) (N := some 422) #[true, true, true, true, true, true, false, false, false] rfl rfl (by kernel_rfl) (by decide) (fun K hK => ?_)
   refine goes_ Tryz.func17 (by kernel_rfl) rfl #[.agg #[.slice Ai l.length ci], .agg #[.slice A0 l.length c0]] (by rfl) rfl rfl (by simp only [List.map_toArray, List.map_cons, List.map_nil]; rfl) ?_
   with_reducible refine (zbc.calls k Ai ci l A0 c0 l true _ (Kd.C_below (Kd.zbw HTI.out).2.2 (by repeat (first | exact Below.refl _ _ | apply zay | apply zab | apply zaf))) (Kd.zbw HTI.out).2.1 (Kd.C_below HR0.out (by repeat (first | exact HB.out | apply zay | apply zab | apply zaf))) HC0.out HEQ.out).mono ?_
   rintro e' w9 ⟨rfl, hb⟩
   have HB9 := zaa.mk (zam (by repeat (first | exact HB.out | apply zay | apply zab | apply zaf)) hb)
   have H49 := zaa.mk (zan (by repeat (first | exact H4.out | apply zak | apply zai)) hb)
   have h209 := zaq (zan (by repeat (first | exact H2.out | apply zak | apply zai)) hb)
   have hi09 := zaq (zan (by repeat (first | exact HI.out | apply zak | apply zai)) hb)
   have hw09 := zaq (zan (by repeat (first | exact H10.out | apply zak | apply zai)) hb)
   have h49 := zaq H49.out
   have hf9 := zae H49.out 0
   clear hb
   refine ⟨_, rfl, ?_⟩
   refine hK.out _ _ ⟨hw09, h209, hi09⟩ (fun hHeld => ?_)
   clear hK K
   refine norm_ (a' := ?_) ?_ ?_
   rotate_left
   ·show Act.put _ (some 422) _ = _
    simp only [Act.put, List.setIfInBounds_toArray, List.set_cons_zero, List.set_cons_succ, zcb, zcf]
    rfl
   refine pure_ (i := 6) (N := some 423) (v := ?_) (a' := ?_) #[true, true, true, true, true, true, true, false, false] rfl rfl (by kernel_rfl) (fun _ _ _ h => h) (Or.inl ⟨by rfl, ?_⟩) ?_ ?_
   rotate_left
   ·intro w'
    go_simp
    with_reducible rfl
   rotate_left
   ·simp only [Act.put, List.setIfInBounds_toArray, List.set_cons_zero, List.set_cons_succ, zcb, zcf]
    rfl
   refine last_ (i := 7) (N := none) #[true, true, true, true, true, true, true, true, false] rfl rfl (by kernel_rfl) (by decide) (fun K hK => ?_)
   refine skip_ (w1 := ?_) (by rfl) rfl ?_ ?_
   rotate_left
   ·go_simp
    rfl
   refine hK.out _ _ ?_
   clear hK K
   refine pure_ (i := 8) (N := some 5) (v := ?_) (a' := ?_) #[true, true, true, true, true, true, true, true, true] rfl rfl (by kernel_rfl) (fun _ _ _ h => h) (Or.inl ⟨by rfl, ?_⟩) ?_ ?_
   rotate_left
   ·intro w'
    go_simp
    with_reducible rfl
   rotate_left
   ·simp only [Act.put, List.setIfInBounds_toArray, List.set_cons_zero, List.set_cons_succ, zcb, zcf]
    rfl
   refine done_ (by kernel_rfl) ?_
   go_wp2
   refine bodyPost_ret (zce rfl _ _ (w.heap.size + 1 + 1) 24 #[.slice Aw r1.length cw] (0, 0) _ rfl (zaJ H49.out 0 _ rfl) Tryz.underlying24 rfl (by kernel_rfl)) rfl ?_
   exact ⟨⟨_, _, _, rfl⟩, HB9.out.setCell (p := ⟨w.heap.size + 1 + 1, 0, none⟩) (by show _ ≤ w.heap.size + 1 + 1; omega) _⟩
end Go.Proofs.YtjghephnjkffcaaGreat.PAll
