/- Parts of one proof, merged by a program of this repo: walks over the given program and plain facts. -/
import Derived.Test.YtjghephnjkffcaaGreatMTreeWrites12
import Derived.Test.YtjghephnjkffcaaGreatMTreeWrites13
import Derived.Test.YtjghephnjkffcaaGreatMTreeWrites4
import Derived.Test.YtjghephnjkffcaaGreatMTreeWrites8
import Derived.Test.YtjghephnjkffcaaGreatMTreeWrites11
import Derived.Test.YtjghephnjkffcaaGreatMTreeWrites10
import Derived.Test.YtjghephnjkffcaaGreatMTreeWrites5
import Derived.Test.YtjghephnjkffcaaGreatMTreeWrites2
import Derived.Deep.RegionHeld3
import Derived.Deep.DrawnRows
import Derived.Deep.DeepCutAuto
namespace Go.Proofs.YtjghephnjkffcaaGreat.PAll
open Go.RowKit Go.Proofs.YtjghephnjkffcaaGreatW.PrintWords Go.Proofs.YtjghephnjkffcaaGreatW.PrintLast Go.Proofs.YtjghephnjkffcaaGreatW.PrintMore
attribute [local go_sem] zb2 zb0 zcn zcm zbF zbE zb1 zbZ
set_option linter.unusedVariables false
set_option linter.unusedSimpArgs false
theorem zao {W : World} {g : Nat} {a : Value} {t : TypeId} (h : W.heap[g]? = some (.cells #[a] t (0, 0))) : W.cell? ⟨g, 0, none⟩ = some a := (zac h 0).trans rfl
theorem zbW {w w' : World} (h : zaQ w w') : Below w.heap.size w w' := by
 obtain ⟨nd, rfl⟩ := h
 exact zab (Below.refl _ _) nd
def upto_write (W : World) (n : Nat) : World := { W with heap := W.heap.extract 0 n }
theorem zcb {W : World} {n : Nat} (h : n ≤ W.heap.size) : (upto_write W n).heap.size = n := by
 show (W.heap.extract 0 n).size = n
 rw [Array.size_extract]; omega
theorem upto_below_write {W : World} {n : Nat} (h : n ≤ W.heap.size) : Below (upto_write W n).heap.size (upto_write W n) W := by
 refine ⟨rfl, rfl, rfl, by rw [zcb h]; exact h, fun k hk => ?_⟩
 rw [zcb h] at hk
 show W.heap[k]? = (W.heap.extract 0 n)[k]?
 rw [Array.getElem?_extract, if_pos (by omega), Nat.zero_add]
theorem upto_back_write {W W' w : World} {n : Nat} (h : n ≤ W.heap.size) (hb : Below (upto_write W n).heap.size (upto_write W n) W') (hw : Below w.heap.size w W) (hwn : w.heap.size ≤ n) : Below w.heap.size w W' ∧ ∀ k, k < n → W'.heap[k]? = W.heap[k]? := by
 have h1 : ∀ k, k < n → W'.heap[k]? = W.heap[k]? := fun k hk => by
  have h2 := hb.block k (by rw [zcb h]; exact hk)
  rw [h2]
  show (W.heap.extract 0 n)[k]? = W.heap[k]?
  rw [Array.getElem?_extract, if_pos (by omega), Nat.zero_add]
 exact ⟨⟨hb.os.trans hw.os, hb.tape.trans hw.tape, hb.output.trans hw.output, by have := hb.size; rw [zcb h] at this; omega, fun k hk => (h1 k (by omega)).trans (hw.block k hk)⟩, h1⟩
set_option maxHeartbeats 8000000 in
set_option maxRecDepth 100000 in
theorem gangwaylaw13_step.write (k : Nat) (A0 : Option Addr) (c0 : Nat) (l : List S40) (a : S44) (AB : Option Addr) (cB : Nat) (w : World) (hr0 : Kd.C k40 w A0 l.length l) (hc0 : l.length ≤ c0)
  (hrb : Kd.C (Kd.int .u8) w AB a.f10.length a.f10) (hcb : a.f10.length ≤ cB) (hcy : zaF.f k a.f10 = some a.f10) (hby : zaK.f k a.f10 = some ()) (m tm b1 b2 : Bool) (r1 : List S40) (e : Int) (hcp : za1.f k l = some l) (hmy : zas.f k l = some m) (htm : za0.f a.f11 = some tm) (hb1 : zbq.f l a.f1 = some b1) (hb2 : zbq.f l a.f2 = some b2) (heq : za7.f k l l = some true) (hno : (m && (tm && b1)) = false → e = 100 ∧ r1 = (if m = true then l else [])) (hrf : (m && (tm && b1)) = true → refWriteE l a.f1 a.f8 a.f10 = some e ∧ (¬ (e = 0 ∧ a.f10.length ≠ 0) → r1 = l) ∧ (e = 0 ∧ a.f10.length ≠ 0 → (zah l a.f1).f1.length ≤ 1000000 ∧ r1 = l.set a.f1.toNat { zah l a.f1 with f1 := putB (upD (zah l a.f1).f1 (a.f8.toNat + a.f10.length)) a.f8.toNat a.f10 a.f10.length, f5 := a.f11 })) (hft : zbT.f k l a.f1 a.f8 a.f10 a.f11 = some (r1, e)) (hto : zbm.f k r1 e r1 e = some true) (hsp : (∀ x ∈ r1, zaK.f k x.f1 = some ()) ∧ r1.length ≤ 1000000 ∧ ∀ x ∈ r1, x.f2.length ≤ 1000000) :
  Calls Tryz.prog 19 #[.agg #[.slice A0 l.length c0], .agg #[.int .i64 9, .int .i64 a.f1, .int .i64 a.f2, .int .i64 a.f3, .string a.f4, .string a.f5, .int .i64 a.f6, .bool a.f7, .int .i64 a.f8, .int .i64 a.f9, .slice AB a.f10.length cB, .int .i64 a.f11]] w fun e' w' => (∃ (A : Option Addr) (q c : Nat), e' = .returned (.tuple #[.agg #[.slice A q c], .bool true])) ∧ Below w.heap.size w w' := by
 have HR0 := zaa.mk hr0
 have HC0 := zaa.mk hc0
 have HCP := zaa.mk hcp
 have HMY := zaa.mk hmy
 have HTM := zaa.mk htm
 have HB1 := zaa.mk hb1
 have HB2 := zaa.mk hb2
 have HEQ := zaa.mk heq
 have HFT := zaa.mk hft
 have HTO := zaa.mk hto
 have HSP := zaa.mk hsp
 have HWI : zaa (zbz.f 9 14 = some 9) := ⟨by kernel_rfl⟩
 have hut := Tryz.underlying24
 have hua := Tryz.underlying44
 have HB := zaa.mk (zad (zad (zad (Below.refl w.heap.size w) (.cells #[.slice A0 l.length c0] 24)) (.cells #[.int .i64 9, .int .i64 a.f1, .int .i64 a.f2, .int .i64 a.f3, .string a.f4, .string a.f5, .int .i64 a.f6, .bool a.f7, .int .i64 a.f8, .int .i64 a.f9, .slice AB a.f10.length cB, .int .i64 a.f11] 44)) (.cells #[.slice none 0 0] 24))
 have H2 := zaa.mk (zai (zai (zbb w (.cells #[.slice A0 l.length c0] 24)) (.cells #[.int .i64 9, .int .i64 a.f1, .int .i64 a.f2, .int .i64 a.f3, .string a.f4, .string a.f5, .int .i64 a.f6, .bool a.f7, .int .i64 a.f8, .int .i64 a.f9, .slice AB a.f10.length cB, .int .i64 a.f11] 44)) (.cells #[.slice none 0 0] 24))
 have H3 := zaa.mk (zai (zbb (w.alloc (.cells #[.slice A0 l.length c0] 24)) (.cells #[.int .i64 9, .int .i64 a.f1, .int .i64 a.f2, .int .i64 a.f3, .string a.f4, .string a.f5, .int .i64 a.f6, .bool a.f7, .int .i64 a.f8, .int .i64 a.f9, .slice AB a.f10.length cB, .int .i64 a.f11] 44)) (.cells #[.slice none 0 0] 24))
 have H4 := zaa.mk (zbb ((w.alloc (.cells #[.slice A0 l.length c0] 24)).alloc (.cells #[.int .i64 9, .int .i64 a.f1, .int .i64 a.f2, .int .i64 a.f3, .string a.f4, .string a.f5, .int .i64 a.f6, .bool a.f7, .int .i64 a.f8, .int .i64 a.f9, .slice AB a.f10.length cB, .int .i64 a.f11] 44)) (.cells #[.slice none 0 0] 24))
 rw [World.size_alloc] at H3
 rw [World.size_alloc, World.size_alloc] at H4
 clear hr0 hc0 hcp hmy htm hb1 hb2 heq hft hto hsp
 have HRB := zaa.mk hrb
 have HCB := zaa.mk hcb
 have HCY := zaa.mk hcy
 have HBY := zaa.mk hby
 clear hrb hcb hcy hby
 have HNO := zaa.mk hno
 have HRQ := zaa.mk hrf
 clear hno hrf
 cases m
 focus
  obtain ⟨he, hr⟩ := HNO.out (by first | rfl | simp)
  have HRW : zaa (r1 = []) := ⟨hr⟩
  subst he
  clear hr HNO HRQ
  have h20 := zao H2.out
  have ha0 := (zac H3.out 0).trans rfl
  have ha1 := (zac H3.out 1).trans rfl
  have ha2 := (zac H3.out 2).trans rfl
  have ha3 := (zac H3.out 3).trans rfl
  have ha4 := (zac H3.out 4).trans rfl
  have ha5 := (zac H3.out 5).trans rfl
  have ha6 := (zac H3.out 6).trans rfl
  have ha7 := (zac H3.out 7).trans rfl
  have ha8 := (zac H3.out 8).trans rfl
  have ha9 := (zac H3.out 9).trans rfl
  have ha10 := (zac H3.out 10).trans rfl
  have ha11 := (zac H3.out 11).trans rfl
  go_enter Tryz.func19, Tryz.ntmps19
  go_wp2_with (first | fail)
  refine (za1.calls k A0 c0 l l _ (Kd.C_below HR0.out HB.out) HC0.out HCP.out).mono ?_
  rintro e' w1 ⟨v, rfl, hS, hb⟩
  obtain ⟨Ai, ci, rfl⟩ := Kd.zbG hS
  have HTI := zaa.mk (Kd.zbD hS HB.out.size)
  clear hS
  clear h20 ha0 ha1 ha2 ha3 ha4 ha5 ha6 ha7 ha8 ha9 ha10 ha11
  replace H2 := zaa.mk (zan (by repeat (first | exact H2.out | apply zaj | apply zai | apply zak)) hb)
  replace H3 := zaa.mk (zan (by repeat (first | exact H3.out | apply zaj | apply zai | apply zak)) hb)
  replace H4 := zaa.mk (zan (by repeat (first | exact H4.out | apply zaj | apply zai | apply zak)) hb)
  replace HB := zaa.mk (zam (by repeat (first | exact HB.out | apply zad | apply zab | apply zae | apply zaB)) hb)
  clear hb
  have h20 := zao H2.out
  have ha0 := (zac H3.out 0).trans rfl
  have ha1 := (zac H3.out 1).trans rfl
  have ha2 := (zac H3.out 2).trans rfl
  have ha3 := (zac H3.out 3).trans rfl
  have ha4 := (zac H3.out 4).trans rfl
  have ha5 := (zac H3.out 5).trans rfl
  have ha6 := (zac H3.out 6).trans rfl
  have ha7 := (zac H3.out 7).trans rfl
  have ha8 := (zac H3.out 8).trans rfl
  have ha9 := (zac H3.out 9).trans rfl
  have ha10 := (zac H3.out 10).trans rfl
  have ha11 := (zac H3.out 11).trans rfl
  have HLT4 : zaa (w.heap.size + 1 + 1 < w1.heap.size) := ⟨zaO H4.out⟩
  go_upto_region 2 with fail
  clear h20 ha0 ha1 ha2 ha3 ha4 ha5 ha6 ha7 ha8 ha9 ha10 ha11
  replace H2 := zaa.mk (zai H2.out (.cells #[.slice Ai l.length ci] 24))
  replace H3 := zaa.mk (zai H3.out (.cells #[.slice Ai l.length ci] 24))
  replace H4 := zaa.mk (zai H4.out (.cells #[.slice Ai l.length ci] 24))
  replace HB := zaa.mk (zad HB.out (.cells #[.slice Ai l.length ci] 24))
  replace HTI := zaa.mk (Kd.za4 HTI.out (zad (Below.refl _ _) (.cells #[.slice Ai l.length ci] 24)))
  have HI := zaa.mk (zbb w1 (.cells #[.slice Ai l.length ci] 24))
  have hg64 : w.heap.size + 1 + 1 < w1.heap.size := HLT4.out
  obtain ⟨g6, hg6⟩ : ∃ g6, g6 = w1.heap.size := ⟨_, rfl⟩
  rw [← hg6] at HI hg64 ⊢
  clear hg6 HLT4
  have h20 := zao H2.out
  have ha0 := (zac H3.out 0).trans rfl
  have ha1 := (zac H3.out 1).trans rfl
  have ha2 := (zac H3.out 2).trans rfl
  have ha3 := (zac H3.out 3).trans rfl
  have ha4 := (zac H3.out 4).trans rfl
  have ha5 := (zac H3.out 5).trans rfl
  have ha6 := (zac H3.out 6).trans rfl
  have ha7 := (zac H3.out 7).trans rfl
  have ha8 := (zac H3.out 8).trans rfl
  have ha9 := (zac H3.out 9).trans rfl
  have ha10 := (zac H3.out 10).trans rfl
  have ha11 := (zac H3.out 11).trans rfl
  have hi0 := zao HI.out
  go_wp2_with (first | fail)
  refine (zas.calls k A0 c0 l false _ (Kd.C_below HR0.out HB.out) HC0.out HMY.out).mono ?_
  rintro e' w2 ⟨rfl, hb⟩
  clear h20 ha0 ha1 ha2 ha3 ha4 ha5 ha6 ha7 ha8 ha9 ha10 ha11 hi0
  replace H2 := zaa.mk (zan (by repeat (first | exact H2.out | apply zaj | apply zai | apply zak)) hb)
  replace H3 := zaa.mk (zan (by repeat (first | exact H3.out | apply zaj | apply zai | apply zak)) hb)
  replace H4 := zaa.mk (zan (by repeat (first | exact H4.out | apply zaj | apply zai | apply zak)) hb)
  replace HB := zaa.mk (zam (by repeat (first | exact HB.out | apply zad | apply zab | apply zae | apply zaB)) hb)
  replace HTI := zaa.mk (Kd.za4 HTI.out hb)
  replace HI := zaa.mk (zan (by repeat (first | exact HI.out | apply zaj | apply zai | apply zak)) hb)
  clear hb
  have h20 := zao H2.out
  have ha0 := (zac H3.out 0).trans rfl
  have ha1 := (zac H3.out 1).trans rfl
  have ha2 := (zac H3.out 2).trans rfl
  have ha3 := (zac H3.out 3).trans rfl
  have ha4 := (zac H3.out 4).trans rfl
  have ha5 := (zac H3.out 5).trans rfl
  have ha6 := (zac H3.out 6).trans rfl
  have ha7 := (zac H3.out 7).trans rfl
  have ha8 := (zac H3.out 8).trans rfl
  have ha9 := (zac H3.out 9).trans rfl
  have ha10 := (zac H3.out 10).trans rfl
  have ha11 := (zac H3.out 11).trans rfl
  have hi0 := zao HI.out
  have HLT : zaa (g6 < w2.heap.size) := ⟨zaO HI.out⟩
  go_upto_region 6 with fail
  clear h20 ha0 ha1 ha2 ha3 ha4 ha5 ha6 ha7 ha8 ha9 ha10 ha11 hi0
  replace H2 := zaa.mk (zai H2.out (.cells #[.slice A0 l.length c0] 24))
  replace H3 := zaa.mk (zai H3.out (.cells #[.slice A0 l.length c0] 24))
  replace H4 := zaa.mk (zai H4.out (.cells #[.slice A0 l.length c0] 24))
  replace HB := zaa.mk (zad HB.out (.cells #[.slice A0 l.length c0] 24))
  replace HTI := zaa.mk (Kd.za4 HTI.out (zad (Below.refl _ _) (.cells #[.slice A0 l.length c0] 24)))
  replace HI := zaa.mk (zai HI.out (.cells #[.slice A0 l.length c0] 24))
  have H10 := zaa.mk (zbb w2 (.cells #[.slice A0 l.length c0] 24))
  have hg10 : g6 < w2.heap.size := HLT.out
  obtain ⟨g10, hgq⟩ : ∃ g10, g10 = w2.heap.size := ⟨_, rfl⟩
  rw [← hgq] at H10 hg10 ⊢
  clear hgq HLT
  have h20 := zao H2.out
  have ha0 := (zac H3.out 0).trans rfl
  have ha1 := (zac H3.out 1).trans rfl
  have ha2 := (zac H3.out 2).trans rfl
  have ha3 := (zac H3.out 3).trans rfl
  have ha4 := (zac H3.out 4).trans rfl
  have ha5 := (zac H3.out 5).trans rfl
  have ha6 := (zac H3.out 6).trans rfl
  have ha7 := (zac H3.out 7).trans rfl
  have ha8 := (zac H3.out 8).trans rfl
  have ha9 := (zac H3.out 9).trans rfl
  have ha10 := (zac H3.out 10).trans rfl
  have ha11 := (zac H3.out 11).trans rfl
  have hi0 := zao HI.out
  have hw0 := zao H10.out
  have hwf := zaf H10.out 0
  go_wp2_with (first | fail)
  refine (zas.calls k A0 c0 l false _ (Kd.C_below HR0.out HB.out) HC0.out HMY.out).mono ?_
  rintro e' w6 ⟨rfl, hb⟩
  clear h20 ha0 ha1 ha2 ha3 ha4 ha5 ha6 ha7 ha8 ha9 ha10 ha11 hi0 hw0 hwf
  replace H2 := zaa.mk (zan (by repeat (first | exact H2.out | apply zaj | apply zai | apply zak)) hb)
  replace H3 := zaa.mk (zan (by repeat (first | exact H3.out | apply zaj | apply zai | apply zak)) hb)
  replace H4 := zaa.mk (zan (by repeat (first | exact H4.out | apply zaj | apply zai | apply zak)) hb)
  replace HB := zaa.mk (zam (by repeat (first | exact HB.out | apply zad | apply zab | apply zae | apply zaB)) hb)
  replace HTI := zaa.mk (Kd.za4 HTI.out hb)
  replace HI := zaa.mk (zan (by repeat (first | exact HI.out | apply zaj | apply zai | apply zak)) hb)
  replace H10 := zaa.mk (zan (by repeat (first | exact H10.out | apply zaj | apply zai | apply zak)) hb)
  clear hb
  have h20 := zao H2.out
  have ha0 := (zac H3.out 0).trans rfl
  have ha1 := (zac H3.out 1).trans rfl
  have ha2 := (zac H3.out 2).trans rfl
  have ha3 := (zac H3.out 3).trans rfl
  have ha4 := (zac H3.out 4).trans rfl
  have ha5 := (zac H3.out 5).trans rfl
  have ha6 := (zac H3.out 6).trans rfl
  have ha7 := (zac H3.out 7).trans rfl
  have ha8 := (zac H3.out 8).trans rfl
  have ha9 := (zac H3.out 9).trans rfl
  have ha10 := (zac H3.out 10).trans rfl
  have ha11 := (zac H3.out 11).trans rfl
  have hi0 := zao HI.out
  have hw0 := zao H10.out
  have hwf := zaf H10.out 0
  go_upto_region 8 with fail
  clear h20 ha0 ha1 ha2 ha3 ha4 ha5 ha6 ha7 ha8 ha9 ha10 ha11 hi0 hw0 hwf
  have hput := zaP H10.out 0 (.slice none 0 0) rfl
  have H2' := zaa.mk (zaD H2.out (p := ⟨g10, 0, none⟩) (by show _ ≠ g10; omega) (.slice none 0 0))
  have H3' := zaa.mk (zaD H3.out (p := ⟨g10, 0, none⟩) (by show _ ≠ g10; omega) (.slice none 0 0))
  have H4' := zaa.mk (zaD H4.out (p := ⟨g10, 0, none⟩) (by show _ ≠ g10; omega) (.slice none 0 0))
  have HB' := zaa.mk (HB.out.setCell (p := ⟨g10, 0, none⟩) (by show _ ≤ g10; omega) (.slice none 0 0))
  have HTI' := zaa.mk (Kd.S_set HTI.out H10.out (by decide) 0 (.slice none 0 0))
  have HI' := zaa.mk (zaD HI.out (p := ⟨g10, 0, none⟩) (by show _ ≠ g10; omega) (.slice none 0 0))
  replace H2 := H2'
  clear H2'
  replace H3 := H3'
  clear H3'
  replace H4 := H4'
  clear H4'
  replace HB := HB'
  clear HB'
  replace HTI := HTI'
  clear HTI'
  replace HI := HI'
  clear HI'
  replace H10 := zaa.mk hput
  clear hput
  have h20 := zao H2.out
  have ha0 := (zac H3.out 0).trans rfl
  have ha1 := (zac H3.out 1).trans rfl
  have ha2 := (zac H3.out 2).trans rfl
  have ha3 := (zac H3.out 3).trans rfl
  have ha4 := (zac H3.out 4).trans rfl
  have ha5 := (zac H3.out 5).trans rfl
  have ha6 := (zac H3.out 6).trans rfl
  have ha7 := (zac H3.out 7).trans rfl
  have ha8 := (zac H3.out 8).trans rfl
  have ha9 := (zac H3.out 9).trans rfl
  have ha10 := (zac H3.out 10).trans rfl
  have ha11 := (zac H3.out 11).trans rfl
  have hi0 := zao HI.out
  have hw0 := zao H10.out
  have hwf := zaf H10.out 0
  have HLT : zaa (g10 < w6.heap.size) := ⟨by have h := zaO H10.out; rwa [World.size_setCell] at h⟩
  go_upto_region 9 with fail
  clear h20 ha0 ha1 ha2 ha3 ha4 ha5 ha6 ha7 ha8 ha9 ha10 ha11 hi0 hw0 hwf
  replace H2 := zaa.mk (zai H2.out (.cells #[.slice none 0 0] 24))
  replace H3 := zaa.mk (zai H3.out (.cells #[.slice none 0 0] 24))
  replace H4 := zaa.mk (zai H4.out (.cells #[.slice none 0 0] 24))
  replace HB := zaa.mk (zad HB.out (.cells #[.slice none 0 0] 24))
  replace HTI := zaa.mk (Kd.za4 HTI.out (zad (Below.refl _ _) (.cells #[.slice none 0 0] 24)))
  replace HI := zaa.mk (zai HI.out (.cells #[.slice none 0 0] 24))
  replace H10 := zaa.mk (zai H10.out (.cells #[.slice none 0 0] 24))
  have H12 := zaa.mk (zbb (w6.setCell ⟨g10, 0, none⟩ (.slice none 0 0)) (.cells #[.slice none 0 0] 24))
  rw [World.size_setCell] at H12
  have hg12 : g10 < w6.heap.size := HLT.out
  obtain ⟨g12, hgq⟩ : ∃ g12, g12 = w6.heap.size := ⟨_, rfl⟩
  rw [← hgq] at H12 hg12
  (try rw [← hgq])
  (try simp only [World.size_setCell, ← hgq])
  clear hgq HLT
  have h20 := zao H2.out
  have ha0 := (zac H3.out 0).trans rfl
  have ha1 := (zac H3.out 1).trans rfl
  have ha2 := (zac H3.out 2).trans rfl
  have ha3 := (zac H3.out 3).trans rfl
  have ha4 := (zac H3.out 4).trans rfl
  have ha5 := (zac H3.out 5).trans rfl
  have ha6 := (zac H3.out 6).trans rfl
  have ha7 := (zac H3.out 7).trans rfl
  have ha8 := (zac H3.out 8).trans rfl
  have ha9 := (zac H3.out 9).trans rfl
  have ha10 := (zac H3.out 10).trans rfl
  have ha11 := (zac H3.out 11).trans rfl
  have hi0 := zao HI.out
  have hw0 := zao H10.out
  have hwf := zaf H10.out 0
  have hx0 := zao H12.out
  have hxf := zaf H12.out 0
  go_wp2_with fail
  refine (zbz.calls _ 14 _ _ HWI.out).mono ?_
  rintro e' w7 ⟨rfl, hd⟩
  have hb := zbW hd
  clear hd
  clear h20 ha0 ha1 ha2 ha3 ha4 ha5 ha6 ha7 ha8 ha9 ha10 ha11 hi0 hw0 hwf hx0 hxf
  replace H2 := zaa.mk (zan (by repeat (first | exact H2.out | apply zaj | apply zai | apply zak)) hb)
  replace H3 := zaa.mk (zan (by repeat (first | exact H3.out | apply zaj | apply zai | apply zak)) hb)
  replace H4 := zaa.mk (zan (by repeat (first | exact H4.out | apply zaj | apply zai | apply zak)) hb)
  replace HB := zaa.mk (zam (by repeat (first | exact HB.out | apply zad | apply zab | apply zae | apply zaB)) hb)
  replace HTI := zaa.mk (Kd.za4 HTI.out hb)
  replace HI := zaa.mk (zan (by repeat (first | exact HI.out | apply zaj | apply zai | apply zak)) hb)
  replace H10 := zaa.mk (zan (by repeat (first | exact H10.out | apply zaj | apply zai | apply zak)) hb)
  replace H12 := zaa.mk (zan (by repeat (first | exact H12.out | apply zaj | apply zai | apply zak)) hb)
  clear hb
  have h20 := zao H2.out
  have ha0 := (zac H3.out 0).trans rfl
  have ha1 := (zac H3.out 1).trans rfl
  have ha2 := (zac H3.out 2).trans rfl
  have ha3 := (zac H3.out 3).trans rfl
  have ha4 := (zac H3.out 4).trans rfl
  have ha5 := (zac H3.out 5).trans rfl
  have ha6 := (zac H3.out 6).trans rfl
  have ha7 := (zac H3.out 7).trans rfl
  have ha8 := (zac H3.out 8).trans rfl
  have ha9 := (zac H3.out 9).trans rfl
  have ha10 := (zac H3.out 10).trans rfl
  have ha11 := (zac H3.out 11).trans rfl
  have hi0 := zao HI.out
  have hw0 := zao H10.out
  have hwf := zaf H10.out 0
  have hx0 := zao H12.out
  have hxf := zaf H12.out 0
  go_upto_region 45 with fail
  clear h20 ha0 ha1 ha2 ha3 ha4 ha5 ha6 ha7 ha8 ha9 ha10 ha11 hi0 hw0 hwf hx0 hxf
  obtain ⟨wz, hwz⟩ : ∃ wz, wz = w7 := ⟨_, rfl⟩
  rw [← hwz] at H2 H3 H4 HB HTI HI H10 H12 ⊢
  clear hwz
  have HEX : zaa (∃ (Aw : Option Addr) (cw : Nat), zaa (wz.heap[g10]? = some (.cells #[.slice Aw r1.length cw] 24 (0, 0))) ∧ zaa ((∀ W : World, Below w.heap.size w W → (∀ q, q < wz.heap.size → q ≠ g12 → W.heap[q]? = wz.heap[q]?) → Kd.C k40 W Aw r1.length r1) ∧ r1.length ≤ cw)) := ⟨⟨none, 0, ⟨by rw [HRW.out]; exact H10.out⟩, ⟨fun W _ _ => by rw [HRW.out]; exact Kd.C_nil _ _, by rw [HRW.out]; exact Nat.le_refl _⟩⟩⟩
  clear H10
  obtain ⟨Aw, cw, H10, HWC⟩ := HEX.out
  clear HEX HRW
 rotate_left 1
 focus
  cases tm
  focus
   obtain ⟨he, hr⟩ := HNO.out (by first | rfl | simp)
   have HRW : zaa (r1 = l) := ⟨hr⟩
   subst he
   clear hr HNO HRQ
   have h20 := zao H2.out
   have ha0 := (zac H3.out 0).trans rfl
   have ha1 := (zac H3.out 1).trans rfl
   have ha2 := (zac H3.out 2).trans rfl
   have ha3 := (zac H3.out 3).trans rfl
   have ha4 := (zac H3.out 4).trans rfl
   have ha5 := (zac H3.out 5).trans rfl
   have ha6 := (zac H3.out 6).trans rfl
   have ha7 := (zac H3.out 7).trans rfl
   have ha8 := (zac H3.out 8).trans rfl
   have ha9 := (zac H3.out 9).trans rfl
   have ha10 := (zac H3.out 10).trans rfl
   have ha11 := (zac H3.out 11).trans rfl
   go_enter Tryz.func19, Tryz.ntmps19
   go_wp2_with (first | fail)
   refine (za1.calls k A0 c0 l l _ (Kd.C_below HR0.out HB.out) HC0.out HCP.out).mono ?_
   rintro e' w1 ⟨v, rfl, hS, hb⟩
   obtain ⟨Ai, ci, rfl⟩ := Kd.zbG hS
   have HTI := zaa.mk (Kd.zbD hS HB.out.size)
   clear hS
   clear h20 ha0 ha1 ha2 ha3 ha4 ha5 ha6 ha7 ha8 ha9 ha10 ha11
   replace H2 := zaa.mk (zan (by repeat (first | exact H2.out | apply zaj | apply zai | apply zak)) hb)
   replace H3 := zaa.mk (zan (by repeat (first | exact H3.out | apply zaj | apply zai | apply zak)) hb)
   replace H4 := zaa.mk (zan (by repeat (first | exact H4.out | apply zaj | apply zai | apply zak)) hb)
   replace HB := zaa.mk (zam (by repeat (first | exact HB.out | apply zad | apply zab | apply zae | apply zaB)) hb)
   clear hb
   have h20 := zao H2.out
   have ha0 := (zac H3.out 0).trans rfl
   have ha1 := (zac H3.out 1).trans rfl
   have ha2 := (zac H3.out 2).trans rfl
   have ha3 := (zac H3.out 3).trans rfl
   have ha4 := (zac H3.out 4).trans rfl
   have ha5 := (zac H3.out 5).trans rfl
   have ha6 := (zac H3.out 6).trans rfl
   have ha7 := (zac H3.out 7).trans rfl
   have ha8 := (zac H3.out 8).trans rfl
   have ha9 := (zac H3.out 9).trans rfl
   have ha10 := (zac H3.out 10).trans rfl
   have ha11 := (zac H3.out 11).trans rfl
   have HLT4 : zaa (w.heap.size + 1 + 1 < w1.heap.size) := ⟨zaO H4.out⟩
   go_upto_region 2 with fail
   clear h20 ha0 ha1 ha2 ha3 ha4 ha5 ha6 ha7 ha8 ha9 ha10 ha11
   replace H2 := zaa.mk (zai H2.out (.cells #[.slice Ai l.length ci] 24))
   replace H3 := zaa.mk (zai H3.out (.cells #[.slice Ai l.length ci] 24))
   replace H4 := zaa.mk (zai H4.out (.cells #[.slice Ai l.length ci] 24))
   replace HB := zaa.mk (zad HB.out (.cells #[.slice Ai l.length ci] 24))
   replace HTI := zaa.mk (Kd.za4 HTI.out (zad (Below.refl _ _) (.cells #[.slice Ai l.length ci] 24)))
   have HI := zaa.mk (zbb w1 (.cells #[.slice Ai l.length ci] 24))
   have hg64 : w.heap.size + 1 + 1 < w1.heap.size := HLT4.out
   obtain ⟨g6, hg6⟩ : ∃ g6, g6 = w1.heap.size := ⟨_, rfl⟩
   rw [← hg6] at HI hg64 ⊢
   clear hg6 HLT4
   have h20 := zao H2.out
   have ha0 := (zac H3.out 0).trans rfl
   have ha1 := (zac H3.out 1).trans rfl
   have ha2 := (zac H3.out 2).trans rfl
   have ha3 := (zac H3.out 3).trans rfl
   have ha4 := (zac H3.out 4).trans rfl
   have ha5 := (zac H3.out 5).trans rfl
   have ha6 := (zac H3.out 6).trans rfl
   have ha7 := (zac H3.out 7).trans rfl
   have ha8 := (zac H3.out 8).trans rfl
   have ha9 := (zac H3.out 9).trans rfl
   have ha10 := (zac H3.out 10).trans rfl
   have ha11 := (zac H3.out 11).trans rfl
   have hi0 := zao HI.out
   go_wp2_with (first | fail)
   refine (zas.calls k A0 c0 l true _ (Kd.C_below HR0.out HB.out) HC0.out HMY.out).mono ?_
   rintro e' w2 ⟨rfl, hb⟩
   clear h20 ha0 ha1 ha2 ha3 ha4 ha5 ha6 ha7 ha8 ha9 ha10 ha11 hi0
   replace H2 := zaa.mk (zan (by repeat (first | exact H2.out | apply zaj | apply zai | apply zak)) hb)
   replace H3 := zaa.mk (zan (by repeat (first | exact H3.out | apply zaj | apply zai | apply zak)) hb)
   replace H4 := zaa.mk (zan (by repeat (first | exact H4.out | apply zaj | apply zai | apply zak)) hb)
   replace HB := zaa.mk (zam (by repeat (first | exact HB.out | apply zad | apply zab | apply zae | apply zaB)) hb)
   replace HTI := zaa.mk (Kd.za4 HTI.out hb)
   replace HI := zaa.mk (zan (by repeat (first | exact HI.out | apply zaj | apply zai | apply zak)) hb)
   clear hb
   have h20 := zao H2.out
   have ha0 := (zac H3.out 0).trans rfl
   have ha1 := (zac H3.out 1).trans rfl
   have ha2 := (zac H3.out 2).trans rfl
   have ha3 := (zac H3.out 3).trans rfl
   have ha4 := (zac H3.out 4).trans rfl
   have ha5 := (zac H3.out 5).trans rfl
   have ha6 := (zac H3.out 6).trans rfl
   have ha7 := (zac H3.out 7).trans rfl
   have ha8 := (zac H3.out 8).trans rfl
   have ha9 := (zac H3.out 9).trans rfl
   have ha10 := (zac H3.out 10).trans rfl
   have ha11 := (zac H3.out 11).trans rfl
   have hi0 := zao HI.out
   go_wp2_with fail
   refine (za0.calls a.f11 _ _ HTM.out).mono ?_
   rintro e' w3 ⟨rfl, hd⟩
   have hb := zbW hd
   clear hd
   clear h20 ha0 ha1 ha2 ha3 ha4 ha5 ha6 ha7 ha8 ha9 ha10 ha11 hi0
   replace H2 := zaa.mk (zan (by repeat (first | exact H2.out | apply zaj | apply zai | apply zak)) hb)
   replace H3 := zaa.mk (zan (by repeat (first | exact H3.out | apply zaj | apply zai | apply zak)) hb)
   replace H4 := zaa.mk (zan (by repeat (first | exact H4.out | apply zaj | apply zai | apply zak)) hb)
   replace HB := zaa.mk (zam (by repeat (first | exact HB.out | apply zad | apply zab | apply zae | apply zaB)) hb)
   replace HTI := zaa.mk (Kd.za4 HTI.out hb)
   replace HI := zaa.mk (zan (by repeat (first | exact HI.out | apply zaj | apply zai | apply zak)) hb)
   clear hb
   have h20 := zao H2.out
   have ha0 := (zac H3.out 0).trans rfl
   have ha1 := (zac H3.out 1).trans rfl
   have ha2 := (zac H3.out 2).trans rfl
   have ha3 := (zac H3.out 3).trans rfl
   have ha4 := (zac H3.out 4).trans rfl
   have ha5 := (zac H3.out 5).trans rfl
   have ha6 := (zac H3.out 6).trans rfl
   have ha7 := (zac H3.out 7).trans rfl
   have ha8 := (zac H3.out 8).trans rfl
   have ha9 := (zac H3.out 9).trans rfl
   have ha10 := (zac H3.out 10).trans rfl
   have ha11 := (zac H3.out 11).trans rfl
   have hi0 := zao HI.out
   have HLT : zaa (g6 < w3.heap.size) := ⟨zaO HI.out⟩
   go_upto_region 6 with fail
   clear h20 ha0 ha1 ha2 ha3 ha4 ha5 ha6 ha7 ha8 ha9 ha10 ha11 hi0
   replace H2 := zaa.mk (zai H2.out (.cells #[.slice A0 l.length c0] 24))
   replace H3 := zaa.mk (zai H3.out (.cells #[.slice A0 l.length c0] 24))
   replace H4 := zaa.mk (zai H4.out (.cells #[.slice A0 l.length c0] 24))
   replace HB := zaa.mk (zad HB.out (.cells #[.slice A0 l.length c0] 24))
   replace HTI := zaa.mk (Kd.za4 HTI.out (zad (Below.refl _ _) (.cells #[.slice A0 l.length c0] 24)))
   replace HI := zaa.mk (zai HI.out (.cells #[.slice A0 l.length c0] 24))
   have H10 := zaa.mk (zbb w3 (.cells #[.slice A0 l.length c0] 24))
   have hg10 : g6 < w3.heap.size := HLT.out
   obtain ⟨g10, hgq⟩ : ∃ g10, g10 = w3.heap.size := ⟨_, rfl⟩
   rw [← hgq] at H10 hg10 ⊢
   clear hgq HLT
   have h20 := zao H2.out
   have ha0 := (zac H3.out 0).trans rfl
   have ha1 := (zac H3.out 1).trans rfl
   have ha2 := (zac H3.out 2).trans rfl
   have ha3 := (zac H3.out 3).trans rfl
   have ha4 := (zac H3.out 4).trans rfl
   have ha5 := (zac H3.out 5).trans rfl
   have ha6 := (zac H3.out 6).trans rfl
   have ha7 := (zac H3.out 7).trans rfl
   have ha8 := (zac H3.out 8).trans rfl
   have ha9 := (zac H3.out 9).trans rfl
   have ha10 := (zac H3.out 10).trans rfl
   have ha11 := (zac H3.out 11).trans rfl
   have hi0 := zao HI.out
   have hw0 := zao H10.out
   have hwf := zaf H10.out 0
   go_wp2_with (first | fail)
   refine (zas.calls k A0 c0 l true _ (Kd.C_below HR0.out HB.out) HC0.out HMY.out).mono ?_
   rintro e' w6 ⟨rfl, hb⟩
   clear h20 ha0 ha1 ha2 ha3 ha4 ha5 ha6 ha7 ha8 ha9 ha10 ha11 hi0 hw0 hwf
   replace H2 := zaa.mk (zan (by repeat (first | exact H2.out | apply zaj | apply zai | apply zak)) hb)
   replace H3 := zaa.mk (zan (by repeat (first | exact H3.out | apply zaj | apply zai | apply zak)) hb)
   replace H4 := zaa.mk (zan (by repeat (first | exact H4.out | apply zaj | apply zai | apply zak)) hb)
   replace HB := zaa.mk (zam (by repeat (first | exact HB.out | apply zad | apply zab | apply zae | apply zaB)) hb)
   replace HTI := zaa.mk (Kd.za4 HTI.out hb)
   replace HI := zaa.mk (zan (by repeat (first | exact HI.out | apply zaj | apply zai | apply zak)) hb)
   replace H10 := zaa.mk (zan (by repeat (first | exact H10.out | apply zaj | apply zai | apply zak)) hb)
   clear hb
   have h20 := zao H2.out
   have ha0 := (zac H3.out 0).trans rfl
   have ha1 := (zac H3.out 1).trans rfl
   have ha2 := (zac H3.out 2).trans rfl
   have ha3 := (zac H3.out 3).trans rfl
   have ha4 := (zac H3.out 4).trans rfl
   have ha5 := (zac H3.out 5).trans rfl
   have ha6 := (zac H3.out 6).trans rfl
   have ha7 := (zac H3.out 7).trans rfl
   have ha8 := (zac H3.out 8).trans rfl
   have ha9 := (zac H3.out 9).trans rfl
   have ha10 := (zac H3.out 10).trans rfl
   have ha11 := (zac H3.out 11).trans rfl
   have hi0 := zao HI.out
   have hw0 := zao H10.out
   have hwf := zaf H10.out 0
   have HLT : zaa (g10 < w6.heap.size) := ⟨zaO H10.out⟩
   go_upto_region 9 with fail
   clear h20 ha0 ha1 ha2 ha3 ha4 ha5 ha6 ha7 ha8 ha9 ha10 ha11 hi0 hw0 hwf
   replace H2 := zaa.mk (zai H2.out (.cells #[.slice none 0 0] 24))
   replace H3 := zaa.mk (zai H3.out (.cells #[.slice none 0 0] 24))
   replace H4 := zaa.mk (zai H4.out (.cells #[.slice none 0 0] 24))
   replace HB := zaa.mk (zad HB.out (.cells #[.slice none 0 0] 24))
   replace HTI := zaa.mk (Kd.za4 HTI.out (zad (Below.refl _ _) (.cells #[.slice none 0 0] 24)))
   replace HI := zaa.mk (zai HI.out (.cells #[.slice none 0 0] 24))
   replace H10 := zaa.mk (zai H10.out (.cells #[.slice none 0 0] 24))
   have H12 := zaa.mk (zbb w6 (.cells #[.slice none 0 0] 24))
   have hg12 : g10 < w6.heap.size := HLT.out
   obtain ⟨g12, hgq⟩ : ∃ g12, g12 = w6.heap.size := ⟨_, rfl⟩
   rw [← hgq] at H12 hg12
   (try rw [← hgq])
   (try simp only [World.size_setCell, ← hgq])
   clear hgq HLT
   have h20 := zao H2.out
   have ha0 := (zac H3.out 0).trans rfl
   have ha1 := (zac H3.out 1).trans rfl
   have ha2 := (zac H3.out 2).trans rfl
   have ha3 := (zac H3.out 3).trans rfl
   have ha4 := (zac H3.out 4).trans rfl
   have ha5 := (zac H3.out 5).trans rfl
   have ha6 := (zac H3.out 6).trans rfl
   have ha7 := (zac H3.out 7).trans rfl
   have ha8 := (zac H3.out 8).trans rfl
   have ha9 := (zac H3.out 9).trans rfl
   have ha10 := (zac H3.out 10).trans rfl
   have ha11 := (zac H3.out 11).trans rfl
   have hi0 := zao HI.out
   have hw0 := zao H10.out
   have hwf := zaf H10.out 0
   have hx0 := zao H12.out
   have hxf := zaf H12.out 0
   go_wp2_with fail
   refine (zbz.calls _ 14 _ _ HWI.out).mono ?_
   rintro e' w7 ⟨rfl, hd⟩
   have hb := zbW hd
   clear hd
   clear h20 ha0 ha1 ha2 ha3 ha4 ha5 ha6 ha7 ha8 ha9 ha10 ha11 hi0 hw0 hwf hx0 hxf
   replace H2 := zaa.mk (zan (by repeat (first | exact H2.out | apply zaj | apply zai | apply zak)) hb)
   replace H3 := zaa.mk (zan (by repeat (first | exact H3.out | apply zaj | apply zai | apply zak)) hb)
   replace H4 := zaa.mk (zan (by repeat (first | exact H4.out | apply zaj | apply zai | apply zak)) hb)
   replace HB := zaa.mk (zam (by repeat (first | exact HB.out | apply zad | apply zab | apply zae | apply zaB)) hb)
   replace HTI := zaa.mk (Kd.za4 HTI.out hb)
   replace HI := zaa.mk (zan (by repeat (first | exact HI.out | apply zaj | apply zai | apply zak)) hb)
   replace H10 := zaa.mk (zan (by repeat (first | exact H10.out | apply zaj | apply zai | apply zak)) hb)
   replace H12 := zaa.mk (zan (by repeat (first | exact H12.out | apply zaj | apply zai | apply zak)) hb)
   clear hb
   have h20 := zao H2.out
   have ha0 := (zac H3.out 0).trans rfl
   have ha1 := (zac H3.out 1).trans rfl
   have ha2 := (zac H3.out 2).trans rfl
   have ha3 := (zac H3.out 3).trans rfl
   have ha4 := (zac H3.out 4).trans rfl
   have ha5 := (zac H3.out 5).trans rfl
   have ha6 := (zac H3.out 6).trans rfl
   have ha7 := (zac H3.out 7).trans rfl
   have ha8 := (zac H3.out 8).trans rfl
   have ha9 := (zac H3.out 9).trans rfl
   have ha10 := (zac H3.out 10).trans rfl
   have ha11 := (zac H3.out 11).trans rfl
   have hi0 := zao HI.out
   have hw0 := zao H10.out
   have hwf := zaf H10.out 0
   have hx0 := zao H12.out
   have hxf := zaf H12.out 0
   go_upto_region 45 with fail
   clear h20 ha0 ha1 ha2 ha3 ha4 ha5 ha6 ha7 ha8 ha9 ha10 ha11 hi0 hw0 hwf hx0 hxf
   obtain ⟨wz, hwz⟩ : ∃ wz, wz = w7 := ⟨_, rfl⟩
   rw [← hwz] at H2 H3 H4 HB HTI HI H10 H12 ⊢
   clear hwz
   have HEX : zaa (∃ (Aw : Option Addr) (cw : Nat), zaa (wz.heap[g10]? = some (.cells #[.slice Aw r1.length cw] 24 (0, 0))) ∧ zaa ((∀ W : World, Below w.heap.size w W → (∀ q, q < wz.heap.size → q ≠ g12 → W.heap[q]? = wz.heap[q]?) → Kd.C k40 W Aw r1.length r1) ∧ r1.length ≤ cw)) := ⟨⟨A0, c0, ⟨by rw [HRW.out]; exact H10.out⟩, ⟨fun W hb _ => by rw [HRW.out]; exact Kd.C_below HR0.out hb, by rw [HRW.out]; exact HC0.out⟩⟩⟩
   clear H10
   obtain ⟨Aw, cw, H10, HWC⟩ := HEX.out
   clear HEX HRW
  rotate_left 1
  focus
   have h20 := zao H2.out
   have ha0 := (zac H3.out 0).trans rfl
   have ha1 := (zac H3.out 1).trans rfl
   have ha2 := (zac H3.out 2).trans rfl
   have ha3 := (zac H3.out 3).trans rfl
   have ha4 := (zac H3.out 4).trans rfl
   have ha5 := (zac H3.out 5).trans rfl
   have ha6 := (zac H3.out 6).trans rfl
   have ha7 := (zac H3.out 7).trans rfl
   have ha8 := (zac H3.out 8).trans rfl
   have ha9 := (zac H3.out 9).trans rfl
   have ha10 := (zac H3.out 10).trans rfl
   have ha11 := (zac H3.out 11).trans rfl
   go_enter Tryz.func19, Tryz.ntmps19
   go_wp2_with (first | fail)
   refine (za1.calls k A0 c0 l l _ (Kd.C_below HR0.out HB.out) HC0.out HCP.out).mono ?_
   rintro e' w1 ⟨v, rfl, hS, hb⟩
   obtain ⟨Ai, ci, rfl⟩ := Kd.zbG hS
   have HTI := zaa.mk (Kd.zbD hS HB.out.size)
   clear hS
   clear h20 ha0 ha1 ha2 ha3 ha4 ha5 ha6 ha7 ha8 ha9 ha10 ha11
   replace H2 := zaa.mk (zan (by repeat (first | exact H2.out | apply zaj | apply zai | apply zak)) hb)
   replace H3 := zaa.mk (zan (by repeat (first | exact H3.out | apply zaj | apply zai | apply zak)) hb)
   replace H4 := zaa.mk (zan (by repeat (first | exact H4.out | apply zaj | apply zai | apply zak)) hb)
   replace HB := zaa.mk (zam (by repeat (first | exact HB.out | apply zad | apply zab | apply zae | apply zaB)) hb)
   clear hb
   have h20 := zao H2.out
   have ha0 := (zac H3.out 0).trans rfl
   have ha1 := (zac H3.out 1).trans rfl
   have ha2 := (zac H3.out 2).trans rfl
   have ha3 := (zac H3.out 3).trans rfl
   have ha4 := (zac H3.out 4).trans rfl
   have ha5 := (zac H3.out 5).trans rfl
   have ha6 := (zac H3.out 6).trans rfl
   have ha7 := (zac H3.out 7).trans rfl
   have ha8 := (zac H3.out 8).trans rfl
   have ha9 := (zac H3.out 9).trans rfl
   have ha10 := (zac H3.out 10).trans rfl
   have ha11 := (zac H3.out 11).trans rfl
   have HLT4 : zaa (w.heap.size + 1 + 1 < w1.heap.size) := ⟨zaO H4.out⟩
   go_upto_region 2 with fail
   clear h20 ha0 ha1 ha2 ha3 ha4 ha5 ha6 ha7 ha8 ha9 ha10 ha11
   replace H2 := zaa.mk (zai H2.out (.cells #[.slice Ai l.length ci] 24))
   replace H3 := zaa.mk (zai H3.out (.cells #[.slice Ai l.length ci] 24))
   replace H4 := zaa.mk (zai H4.out (.cells #[.slice Ai l.length ci] 24))
   replace HB := zaa.mk (zad HB.out (.cells #[.slice Ai l.length ci] 24))
   replace HTI := zaa.mk (Kd.za4 HTI.out (zad (Below.refl _ _) (.cells #[.slice Ai l.length ci] 24)))
   have HI := zaa.mk (zbb w1 (.cells #[.slice Ai l.length ci] 24))
   have hg64 : w.heap.size + 1 + 1 < w1.heap.size := HLT4.out
   obtain ⟨g6, hg6⟩ : ∃ g6, g6 = w1.heap.size := ⟨_, rfl⟩
   rw [← hg6] at HI hg64 ⊢
   clear hg6 HLT4
   have h20 := zao H2.out
   have ha0 := (zac H3.out 0).trans rfl
   have ha1 := (zac H3.out 1).trans rfl
   have ha2 := (zac H3.out 2).trans rfl
   have ha3 := (zac H3.out 3).trans rfl
   have ha4 := (zac H3.out 4).trans rfl
   have ha5 := (zac H3.out 5).trans rfl
   have ha6 := (zac H3.out 6).trans rfl
   have ha7 := (zac H3.out 7).trans rfl
   have ha8 := (zac H3.out 8).trans rfl
   have ha9 := (zac H3.out 9).trans rfl
   have ha10 := (zac H3.out 10).trans rfl
   have ha11 := (zac H3.out 11).trans rfl
   have hi0 := zao HI.out
   go_wp2_with (first | fail)
   refine (zas.calls k A0 c0 l true _ (Kd.C_below HR0.out HB.out) HC0.out HMY.out).mono ?_
   rintro e' w2 ⟨rfl, hb⟩
   clear h20 ha0 ha1 ha2 ha3 ha4 ha5 ha6 ha7 ha8 ha9 ha10 ha11 hi0
   replace H2 := zaa.mk (zan (by repeat (first | exact H2.out | apply zaj | apply zai | apply zak)) hb)
   replace H3 := zaa.mk (zan (by repeat (first | exact H3.out | apply zaj | apply zai | apply zak)) hb)
   replace H4 := zaa.mk (zan (by repeat (first | exact H4.out | apply zaj | apply zai | apply zak)) hb)
   replace HB := zaa.mk (zam (by repeat (first | exact HB.out | apply zad | apply zab | apply zae | apply zaB)) hb)
   replace HTI := zaa.mk (Kd.za4 HTI.out hb)
   replace HI := zaa.mk (zan (by repeat (first | exact HI.out | apply zaj | apply zai | apply zak)) hb)
   clear hb
   have h20 := zao H2.out
   have ha0 := (zac H3.out 0).trans rfl
   have ha1 := (zac H3.out 1).trans rfl
   have ha2 := (zac H3.out 2).trans rfl
   have ha3 := (zac H3.out 3).trans rfl
   have ha4 := (zac H3.out 4).trans rfl
   have ha5 := (zac H3.out 5).trans rfl
   have ha6 := (zac H3.out 6).trans rfl
   have ha7 := (zac H3.out 7).trans rfl
   have ha8 := (zac H3.out 8).trans rfl
   have ha9 := (zac H3.out 9).trans rfl
   have ha10 := (zac H3.out 10).trans rfl
   have ha11 := (zac H3.out 11).trans rfl
   have hi0 := zao HI.out
   go_wp2_with fail
   refine (za0.calls a.f11 _ _ HTM.out).mono ?_
   rintro e' w3 ⟨rfl, hd⟩
   have hb := zbW hd
   clear hd
   clear h20 ha0 ha1 ha2 ha3 ha4 ha5 ha6 ha7 ha8 ha9 ha10 ha11 hi0
   replace H2 := zaa.mk (zan (by repeat (first | exact H2.out | apply zaj | apply zai | apply zak)) hb)
   replace H3 := zaa.mk (zan (by repeat (first | exact H3.out | apply zaj | apply zai | apply zak)) hb)
   replace H4 := zaa.mk (zan (by repeat (first | exact H4.out | apply zaj | apply zai | apply zak)) hb)
   replace HB := zaa.mk (zam (by repeat (first | exact HB.out | apply zad | apply zab | apply zae | apply zaB)) hb)
   replace HTI := zaa.mk (Kd.za4 HTI.out hb)
   replace HI := zaa.mk (zan (by repeat (first | exact HI.out | apply zaj | apply zai | apply zak)) hb)
   clear hb
   have h20 := zao H2.out
   have ha0 := (zac H3.out 0).trans rfl
   have ha1 := (zac H3.out 1).trans rfl
   have ha2 := (zac H3.out 2).trans rfl
   have ha3 := (zac H3.out 3).trans rfl
   have ha4 := (zac H3.out 4).trans rfl
   have ha5 := (zac H3.out 5).trans rfl
   have ha6 := (zac H3.out 6).trans rfl
   have ha7 := (zac H3.out 7).trans rfl
   have ha8 := (zac H3.out 8).trans rfl
   have ha9 := (zac H3.out 9).trans rfl
   have ha10 := (zac H3.out 10).trans rfl
   have ha11 := (zac H3.out 11).trans rfl
   have hi0 := zao HI.out
   go_wp2_with (first | fail)
   refine (zbq.calls A0 c0 l a.f1 b1 _ (Kd.C_below HR0.out HB.out) HC0.out HB1.out).mono ?_
   rintro e' w4 ⟨rfl, hb⟩
   clear h20 ha0 ha1 ha2 ha3 ha4 ha5 ha6 ha7 ha8 ha9 ha10 ha11 hi0
   replace H2 := zaa.mk (zan (by repeat (first | exact H2.out | apply zaj | apply zai | apply zak)) hb)
   replace H3 := zaa.mk (zan (by repeat (first | exact H3.out | apply zaj | apply zai | apply zak)) hb)
   replace H4 := zaa.mk (zan (by repeat (first | exact H4.out | apply zaj | apply zai | apply zak)) hb)
   replace HB := zaa.mk (zam (by repeat (first | exact HB.out | apply zad | apply zab | apply zae | apply zaB)) hb)
   replace HTI := zaa.mk (Kd.za4 HTI.out hb)
   replace HI := zaa.mk (zan (by repeat (first | exact HI.out | apply zaj | apply zai | apply zak)) hb)
   clear hb
   have h20 := zao H2.out
   have ha0 := (zac H3.out 0).trans rfl
   have ha1 := (zac H3.out 1).trans rfl
   have ha2 := (zac H3.out 2).trans rfl
   have ha3 := (zac H3.out 3).trans rfl
   have ha4 := (zac H3.out 4).trans rfl
   have ha5 := (zac H3.out 5).trans rfl
   have ha6 := (zac H3.out 6).trans rfl
   have ha7 := (zac H3.out 7).trans rfl
   have ha8 := (zac H3.out 8).trans rfl
   have ha9 := (zac H3.out 9).trans rfl
   have ha10 := (zac H3.out 10).trans rfl
   have ha11 := (zac H3.out 11).trans rfl
   have hi0 := zao HI.out
   go_wp2_with (first | fail)
   refine (zbq.calls A0 c0 l a.f2 b2 _ (Kd.C_below HR0.out HB.out) HC0.out HB2.out).mono ?_
   rintro e' w5 ⟨rfl, hb⟩
   clear h20 ha0 ha1 ha2 ha3 ha4 ha5 ha6 ha7 ha8 ha9 ha10 ha11 hi0
   replace H2 := zaa.mk (zan (by repeat (first | exact H2.out | apply zaj | apply zai | apply zak)) hb)
   replace H3 := zaa.mk (zan (by repeat (first | exact H3.out | apply zaj | apply zai | apply zak)) hb)
   replace H4 := zaa.mk (zan (by repeat (first | exact H4.out | apply zaj | apply zai | apply zak)) hb)
   replace HB := zaa.mk (zam (by repeat (first | exact HB.out | apply zad | apply zab | apply zae | apply zaB)) hb)
   replace HTI := zaa.mk (Kd.za4 HTI.out hb)
   replace HI := zaa.mk (zan (by repeat (first | exact HI.out | apply zaj | apply zai | apply zak)) hb)
   clear hb
   have h20 := zao H2.out
   have ha0 := (zac H3.out 0).trans rfl
   have ha1 := (zac H3.out 1).trans rfl
   have ha2 := (zac H3.out 2).trans rfl
   have ha3 := (zac H3.out 3).trans rfl
   have ha4 := (zac H3.out 4).trans rfl
   have ha5 := (zac H3.out 5).trans rfl
   have ha6 := (zac H3.out 6).trans rfl
   have ha7 := (zac H3.out 7).trans rfl
   have ha8 := (zac H3.out 8).trans rfl
   have ha9 := (zac H3.out 9).trans rfl
   have ha10 := (zac H3.out 10).trans rfl
   have ha11 := (zac H3.out 11).trans rfl
   have hi0 := zao HI.out
   have HLT : zaa (g6 < w5.heap.size) := ⟨zaO HI.out⟩
   go_upto_region 6 with fail
   clear h20 ha0 ha1 ha2 ha3 ha4 ha5 ha6 ha7 ha8 ha9 ha10 ha11 hi0
   replace H2 := zaa.mk (zai H2.out (.cells #[.slice A0 l.length c0] 24))
   replace H3 := zaa.mk (zai H3.out (.cells #[.slice A0 l.length c0] 24))
   replace H4 := zaa.mk (zai H4.out (.cells #[.slice A0 l.length c0] 24))
   replace HB := zaa.mk (zad HB.out (.cells #[.slice A0 l.length c0] 24))
   replace HTI := zaa.mk (Kd.za4 HTI.out (zad (Below.refl _ _) (.cells #[.slice A0 l.length c0] 24)))
   replace HI := zaa.mk (zai HI.out (.cells #[.slice A0 l.length c0] 24))
   have H10 := zaa.mk (zbb w5 (.cells #[.slice A0 l.length c0] 24))
   have hg10 : g6 < w5.heap.size := HLT.out
   obtain ⟨g10, hgq⟩ : ∃ g10, g10 = w5.heap.size := ⟨_, rfl⟩
   rw [← hgq] at H10 hg10 ⊢
   clear hgq HLT
   have h20 := zao H2.out
   have ha0 := (zac H3.out 0).trans rfl
   have ha1 := (zac H3.out 1).trans rfl
   have ha2 := (zac H3.out 2).trans rfl
   have ha3 := (zac H3.out 3).trans rfl
   have ha4 := (zac H3.out 4).trans rfl
   have ha5 := (zac H3.out 5).trans rfl
   have ha6 := (zac H3.out 6).trans rfl
   have ha7 := (zac H3.out 7).trans rfl
   have ha8 := (zac H3.out 8).trans rfl
   have ha9 := (zac H3.out 9).trans rfl
   have ha10 := (zac H3.out 10).trans rfl
   have ha11 := (zac H3.out 11).trans rfl
   have hi0 := zao HI.out
   have hw0 := zao H10.out
   have hwf := zaf H10.out 0
   go_wp2_with (first | fail)
   refine (zas.calls k A0 c0 l true _ (Kd.C_below HR0.out HB.out) HC0.out HMY.out).mono ?_
   rintro e' w6 ⟨rfl, hb⟩
   clear h20 ha0 ha1 ha2 ha3 ha4 ha5 ha6 ha7 ha8 ha9 ha10 ha11 hi0 hw0 hwf
   replace H2 := zaa.mk (zan (by repeat (first | exact H2.out | apply zaj | apply zai | apply zak)) hb)
   replace H3 := zaa.mk (zan (by repeat (first | exact H3.out | apply zaj | apply zai | apply zak)) hb)
   replace H4 := zaa.mk (zan (by repeat (first | exact H4.out | apply zaj | apply zai | apply zak)) hb)
   replace HB := zaa.mk (zam (by repeat (first | exact HB.out | apply zad | apply zab | apply zae | apply zaB)) hb)
   replace HTI := zaa.mk (Kd.za4 HTI.out hb)
   replace HI := zaa.mk (zan (by repeat (first | exact HI.out | apply zaj | apply zai | apply zak)) hb)
   replace H10 := zaa.mk (zan (by repeat (first | exact H10.out | apply zaj | apply zai | apply zak)) hb)
   clear hb
   have h20 := zao H2.out
   have ha0 := (zac H3.out 0).trans rfl
   have ha1 := (zac H3.out 1).trans rfl
   have ha2 := (zac H3.out 2).trans rfl
   have ha3 := (zac H3.out 3).trans rfl
   have ha4 := (zac H3.out 4).trans rfl
   have ha5 := (zac H3.out 5).trans rfl
   have ha6 := (zac H3.out 6).trans rfl
   have ha7 := (zac H3.out 7).trans rfl
   have ha8 := (zac H3.out 8).trans rfl
   have ha9 := (zac H3.out 9).trans rfl
   have ha10 := (zac H3.out 10).trans rfl
   have ha11 := (zac H3.out 11).trans rfl
   have hi0 := zao HI.out
   have hw0 := zao H10.out
   have hwf := zaf H10.out 0
   have HLT : zaa (g10 < w6.heap.size) := ⟨zaO H10.out⟩
   go_upto_region 9 with fail
   clear h20 ha0 ha1 ha2 ha3 ha4 ha5 ha6 ha7 ha8 ha9 ha10 ha11 hi0 hw0 hwf
   replace H2 := zaa.mk (zai H2.out (.cells #[.slice none 0 0] 24))
   replace H3 := zaa.mk (zai H3.out (.cells #[.slice none 0 0] 24))
   replace H4 := zaa.mk (zai H4.out (.cells #[.slice none 0 0] 24))
   replace HB := zaa.mk (zad HB.out (.cells #[.slice none 0 0] 24))
   replace HTI := zaa.mk (Kd.za4 HTI.out (zad (Below.refl _ _) (.cells #[.slice none 0 0] 24)))
   replace HI := zaa.mk (zai HI.out (.cells #[.slice none 0 0] 24))
   replace H10 := zaa.mk (zai H10.out (.cells #[.slice none 0 0] 24))
   have H12 := zaa.mk (zbb w6 (.cells #[.slice none 0 0] 24))
   have hg12 : g10 < w6.heap.size := HLT.out
   obtain ⟨g12, hgq⟩ : ∃ g12, g12 = w6.heap.size := ⟨_, rfl⟩
   rw [← hgq] at H12 hg12
   (try rw [← hgq])
   (try simp only [World.size_setCell, ← hgq])
   clear hgq HLT
   have h20 := zao H2.out
   have ha0 := (zac H3.out 0).trans rfl
   have ha1 := (zac H3.out 1).trans rfl
   have ha2 := (zac H3.out 2).trans rfl
   have ha3 := (zac H3.out 3).trans rfl
   have ha4 := (zac H3.out 4).trans rfl
   have ha5 := (zac H3.out 5).trans rfl
   have ha6 := (zac H3.out 6).trans rfl
   have ha7 := (zac H3.out 7).trans rfl
   have ha8 := (zac H3.out 8).trans rfl
   have ha9 := (zac H3.out 9).trans rfl
   have ha10 := (zac H3.out 10).trans rfl
   have ha11 := (zac H3.out 11).trans rfl
   have hi0 := zao HI.out
   have hw0 := zao H10.out
   have hwf := zaf H10.out 0
   have hx0 := zao H12.out
   have hxf := zaf H12.out 0
   go_wp2_with fail
   refine (zbz.calls _ 14 _ _ HWI.out).mono ?_
   rintro e' w7 ⟨rfl, hd⟩
   have hb := zbW hd
   clear hd
   clear h20 ha0 ha1 ha2 ha3 ha4 ha5 ha6 ha7 ha8 ha9 ha10 ha11 hi0 hw0 hwf hx0 hxf
   replace H2 := zaa.mk (zan (by repeat (first | exact H2.out | apply zaj | apply zai | apply zak)) hb)
   replace H3 := zaa.mk (zan (by repeat (first | exact H3.out | apply zaj | apply zai | apply zak)) hb)
   replace H4 := zaa.mk (zan (by repeat (first | exact H4.out | apply zaj | apply zai | apply zak)) hb)
   replace HB := zaa.mk (zam (by repeat (first | exact HB.out | apply zad | apply zab | apply zae | apply zaB)) hb)
   replace HTI := zaa.mk (Kd.za4 HTI.out hb)
   replace HI := zaa.mk (zan (by repeat (first | exact HI.out | apply zaj | apply zai | apply zak)) hb)
   replace H10 := zaa.mk (zan (by repeat (first | exact H10.out | apply zaj | apply zai | apply zak)) hb)
   replace H12 := zaa.mk (zan (by repeat (first | exact H12.out | apply zaj | apply zai | apply zak)) hb)
   clear hb
   have h20 := zao H2.out
   have ha0 := (zac H3.out 0).trans rfl
   have ha1 := (zac H3.out 1).trans rfl
   have ha2 := (zac H3.out 2).trans rfl
   have ha3 := (zac H3.out 3).trans rfl
   have ha4 := (zac H3.out 4).trans rfl
   have ha5 := (zac H3.out 5).trans rfl
   have ha6 := (zac H3.out 6).trans rfl
   have ha7 := (zac H3.out 7).trans rfl
   have ha8 := (zac H3.out 8).trans rfl
   have ha9 := (zac H3.out 9).trans rfl
   have ha10 := (zac H3.out 10).trans rfl
   have ha11 := (zac H3.out 11).trans rfl
   have hi0 := zao HI.out
   have hw0 := zao H10.out
   have hwf := zaf H10.out 0
   have hx0 := zao H12.out
   have hxf := zaf H12.out 0
   cases b1
   focus
    obtain ⟨he, hr⟩ := HNO.out (by first | rfl | simp)
    have HRW : zaa (r1 = l) := ⟨hr⟩
    subst he
    clear hr HNO HRQ
    go_upto_region 45 with fail
    clear h20 ha0 ha1 ha2 ha3 ha4 ha5 ha6 ha7 ha8 ha9 ha10 ha11 hi0 hw0 hwf hx0 hxf
    obtain ⟨wz, hwz⟩ : ∃ wz, wz = w7 := ⟨_, rfl⟩
    rw [← hwz] at H2 H3 H4 HB HTI HI H10 H12 ⊢
    clear hwz
    have HEX : zaa (∃ (Aw : Option Addr) (cw : Nat), zaa (wz.heap[g10]? = some (.cells #[.slice Aw r1.length cw] 24 (0, 0))) ∧ zaa ((∀ W : World, Below w.heap.size w W → (∀ q, q < wz.heap.size → q ≠ g12 → W.heap[q]? = wz.heap[q]?) → Kd.C k40 W Aw r1.length r1) ∧ r1.length ≤ cw)) := ⟨⟨A0, c0, ⟨by rw [HRW.out]; exact H10.out⟩, ⟨fun W hb _ => by rw [HRW.out]; exact Kd.C_below HR0.out hb, by rw [HRW.out]; exact HC0.out⟩⟩⟩
    clear H10
    obtain ⟨Aw, cw, H10, HWC⟩ := HEX.out
    clear HEX HRW
   rotate_left 1
   focus
    by_cases z : e = 0 ∧ a.f10.length ≠ 0
    focus
     obtain ⟨z, zb⟩ := z
     subst z
     obtain ⟨h1, h2, h3⟩ := HRQ.out (by first | rfl | simp)
     have HRF := zaa.mk h1
     have HGD := zaa.mk (h3 ⟨rfl, zb⟩)
     have HZB := zaa.mk zb
     clear zb
     clear h1 h2 h3 HNO HRQ
     go_wp2_with (first | fail)
     refine (zct.ok k A0 c0 l a.f1 a.f8 AB cB a.f10 a.f11 r1 _ (Kd.C_below HR0.out HB.out) HC0.out (Kd.C_below HRB.out HB.out) HCB.out HRF.out HZB.out HCP.out HGD.out.1 HGD.out.2).mono ?_
     rintro e' w8 ⟨Aw, cw, rfl, hS, hb⟩
     have HW := zaa.mk (Kd.zbD hS HB.out.size)
     clear hS
     clear h20 ha0 ha1 ha2 ha3 ha4 ha5 ha6 ha7 ha8 ha9 ha10 ha11 hi0 hw0 hwf hx0 hxf
     replace H2 := zaa.mk (zan (by repeat (first | exact H2.out | apply zaj | apply zai | apply zak)) hb)
     replace H3 := zaa.mk (zan (by repeat (first | exact H3.out | apply zaj | apply zai | apply zak)) hb)
     replace H4 := zaa.mk (zan (by repeat (first | exact H4.out | apply zaj | apply zai | apply zak)) hb)
     replace HB := zaa.mk (zam (by repeat (first | exact HB.out | apply zad | apply zab | apply zae | apply zaB)) hb)
     replace HTI := zaa.mk (Kd.za4 HTI.out hb)
     replace HI := zaa.mk (zan (by repeat (first | exact HI.out | apply zaj | apply zai | apply zak)) hb)
     replace H10 := zaa.mk (zan (by repeat (first | exact H10.out | apply zaj | apply zai | apply zak)) hb)
     replace H12 := zaa.mk (zan (by repeat (first | exact H12.out | apply zaj | apply zai | apply zak)) hb)
     clear hb
     have h20 := zao H2.out
     have ha0 := (zac H3.out 0).trans rfl
     have ha1 := (zac H3.out 1).trans rfl
     have ha2 := (zac H3.out 2).trans rfl
     have ha3 := (zac H3.out 3).trans rfl
     have ha4 := (zac H3.out 4).trans rfl
     have ha5 := (zac H3.out 5).trans rfl
     have ha6 := (zac H3.out 6).trans rfl
     have ha7 := (zac H3.out 7).trans rfl
     have ha8 := (zac H3.out 8).trans rfl
     have ha9 := (zac H3.out 9).trans rfl
     have ha10 := (zac H3.out 10).trans rfl
     have ha11 := (zac H3.out 11).trans rfl
     have hi0 := zao HI.out
     have hw0 := zao H10.out
     have hwf := zaf H10.out 0
     have hx0 := zao H12.out
     have hxf := zaf H12.out 0
     go_upto_region 45 with fail
     clear h20 ha0 ha1 ha2 ha3 ha4 ha5 ha6 ha7 ha8 ha9 ha10 ha11 hi0 hw0 hwf hx0 hxf
     have hput := zaP H10.out 0 (.slice Aw r1.length cw) rfl
     have H2' := zaa.mk (zaD H2.out (p := ⟨g10, 0, none⟩) (by show _ ≠ g10; omega) (.slice Aw r1.length cw))
     have H3' := zaa.mk (zaD H3.out (p := ⟨g10, 0, none⟩) (by show _ ≠ g10; omega) (.slice Aw r1.length cw))
     have H4' := zaa.mk (zaD H4.out (p := ⟨g10, 0, none⟩) (by show _ ≠ g10; omega) (.slice Aw r1.length cw))
     have HB' := zaa.mk (HB.out.setCell (p := ⟨g10, 0, none⟩) (by show _ ≤ g10; omega) (.slice Aw r1.length cw))
     have HTI' := zaa.mk (Kd.S_set HTI.out H10.out (by decide) 0 (.slice Aw r1.length cw))
     have HI' := zaa.mk (zaD HI.out (p := ⟨g10, 0, none⟩) (by show _ ≠ g10; omega) (.slice Aw r1.length cw))
     have H12' := zaa.mk (zaD H12.out (p := ⟨g10, 0, none⟩) (by show _ ≠ g10; omega) (.slice Aw r1.length cw))
     have HW' := zaa.mk (Kd.S_set HW.out H10.out (by decide) 0 (.slice Aw r1.length cw))
     replace H2 := H2'
     clear H2'
     replace H3 := H3'
     clear H3'
     replace H4 := H4'
     clear H4'
     replace HB := HB'
     clear HB'
     replace HTI := HTI'
     clear HTI'
     replace HI := HI'
     clear HI'
     replace H12 := H12'
     clear H12'
     replace HW := HW'
     clear HW'
     replace H10 := zaa.mk hput
     clear hput
     obtain ⟨wz, hwz⟩ : ∃ wz, wz = (w8.setCell ⟨g10, 0, none⟩ (.slice Aw r1.length cw)) := ⟨_, rfl⟩
     rw [← hwz] at H2 H3 H4 HB HTI HI H10 H12 HW ⊢
     clear hwz
     have HEX : zaa (∃ (Aw : Option Addr) (cw : Nat), zaa (wz.heap[g10]? = some (.cells #[.slice Aw r1.length cw] 24 (0, 0))) ∧ zaa ((∀ W : World, Below w.heap.size w W → (∀ q, q < wz.heap.size → q ≠ g12 → W.heap[q]? = wz.heap[q]?) → Kd.C k40 W Aw r1.length r1) ∧ r1.length ≤ cw)) := ⟨⟨Aw, cw, H10, ⟨fun W _ hk => (Kd.zbx (Kd.S_step (Kd.S_types HW.out H12.out (by decide)) (fun q hq hlt => hk q hlt hq.2))).2.2, (Kd.zbx HW.out).2.1⟩⟩⟩
     clear HW H10
     obtain ⟨Aw, cw, H10, HWC⟩ := HEX.out
     clear HEX
    rotate_left 1
    focus
     obtain ⟨h1, h2, h3⟩ := HRQ.out (by first | rfl | simp)
     have HRF := zaa.mk h1
     have HZ := zaa.mk z
     have HRW : zaa (r1 = l) := ⟨(h2 z)⟩
     clear h1 h2 h3 z HNO HRQ
     go_wp2_with (first | fail)
     refine (zct.no k A0 c0 l a.f1 a.f8 AB cB a.f10 a.f11 e _ (Kd.C_below HR0.out HB.out) HC0.out HRF.out HZ.out).mono ?_
     rintro e' w8 ⟨rfl, hb⟩
     clear h20 ha0 ha1 ha2 ha3 ha4 ha5 ha6 ha7 ha8 ha9 ha10 ha11 hi0 hw0 hwf hx0 hxf
     replace H2 := zaa.mk (zan (by repeat (first | exact H2.out | apply zaj | apply zai | apply zak)) hb)
     replace H3 := zaa.mk (zan (by repeat (first | exact H3.out | apply zaj | apply zai | apply zak)) hb)
     replace H4 := zaa.mk (zan (by repeat (first | exact H4.out | apply zaj | apply zai | apply zak)) hb)
     replace HB := zaa.mk (zam (by repeat (first | exact HB.out | apply zad | apply zab | apply zae | apply zaB)) hb)
     replace HTI := zaa.mk (Kd.za4 HTI.out hb)
     replace HI := zaa.mk (zan (by repeat (first | exact HI.out | apply zaj | apply zai | apply zak)) hb)
     replace H10 := zaa.mk (zan (by repeat (first | exact H10.out | apply zaj | apply zai | apply zak)) hb)
     replace H12 := zaa.mk (zan (by repeat (first | exact H12.out | apply zaj | apply zai | apply zak)) hb)
     clear hb
     have h20 := zao H2.out
     have ha0 := (zac H3.out 0).trans rfl
     have ha1 := (zac H3.out 1).trans rfl
     have ha2 := (zac H3.out 2).trans rfl
     have ha3 := (zac H3.out 3).trans rfl
     have ha4 := (zac H3.out 4).trans rfl
     have ha5 := (zac H3.out 5).trans rfl
     have ha6 := (zac H3.out 6).trans rfl
     have ha7 := (zac H3.out 7).trans rfl
     have ha8 := (zac H3.out 8).trans rfl
     have ha9 := (zac H3.out 9).trans rfl
     have ha10 := (zac H3.out 10).trans rfl
     have ha11 := (zac H3.out 11).trans rfl
     have hi0 := zao HI.out
     have hw0 := zao H10.out
     have hwf := zaf H10.out 0
     have hx0 := zao H12.out
     have hxf := zaf H12.out 0
     go_upto_region 45 with fail
     clear h20 ha0 ha1 ha2 ha3 ha4 ha5 ha6 ha7 ha8 ha9 ha10 ha11 hi0 hw0 hwf hx0 hxf
     have hput := zaP H10.out 0 (.slice A0 l.length c0) rfl
     have H2' := zaa.mk (zaD H2.out (p := ⟨g10, 0, none⟩) (by show _ ≠ g10; omega) (.slice A0 l.length c0))
     have H3' := zaa.mk (zaD H3.out (p := ⟨g10, 0, none⟩) (by show _ ≠ g10; omega) (.slice A0 l.length c0))
     have H4' := zaa.mk (zaD H4.out (p := ⟨g10, 0, none⟩) (by show _ ≠ g10; omega) (.slice A0 l.length c0))
     have HB' := zaa.mk (HB.out.setCell (p := ⟨g10, 0, none⟩) (by show _ ≤ g10; omega) (.slice A0 l.length c0))
     have HTI' := zaa.mk (Kd.S_set HTI.out H10.out (by decide) 0 (.slice A0 l.length c0))
     have HI' := zaa.mk (zaD HI.out (p := ⟨g10, 0, none⟩) (by show _ ≠ g10; omega) (.slice A0 l.length c0))
     have H12' := zaa.mk (zaD H12.out (p := ⟨g10, 0, none⟩) (by show _ ≠ g10; omega) (.slice A0 l.length c0))
     replace H2 := H2'
     clear H2'
     replace H3 := H3'
     clear H3'
     replace H4 := H4'
     clear H4'
     replace HB := HB'
     clear HB'
     replace HTI := HTI'
     clear HTI'
     replace HI := HI'
     clear HI'
     replace H12 := H12'
     clear H12'
     replace H10 := zaa.mk hput
     clear hput
     obtain ⟨wz, hwz⟩ : ∃ wz, wz = (w8.setCell ⟨g10, 0, none⟩ (.slice A0 l.length c0)) := ⟨_, rfl⟩
     rw [← hwz] at H2 H3 H4 HB HTI HI H10 H12 ⊢
     clear hwz
     have HEX : zaa (∃ (Aw : Option Addr) (cw : Nat), zaa (wz.heap[g10]? = some (.cells #[.slice Aw r1.length cw] 24 (0, 0))) ∧ zaa ((∀ W : World, Below w.heap.size w W → (∀ q, q < wz.heap.size → q ≠ g12 → W.heap[q]? = wz.heap[q]?) → Kd.C k40 W Aw r1.length r1) ∧ r1.length ≤ cw)) := ⟨⟨A0, c0, ⟨by rw [HRW.out]; exact H10.out⟩, ⟨fun W hb _ => by rw [HRW.out]; exact Kd.C_below HR0.out hb, by rw [HRW.out]; exact HC0.out⟩⟩⟩
     clear H10
     obtain ⟨Aw, cw, H10, HWC⟩ := HEX.out
     clear HEX HRW
 all_goals
  as_aux_lemma =>
   have h20 := zao H2.out
   have ha0 := (zac H3.out 0).trans rfl
   have ha1 := (zac H3.out 1).trans rfl
   have ha2 := (zac H3.out 2).trans rfl
   have ha3 := (zac H3.out 3).trans rfl
   have ha4 := (zac H3.out 4).trans rfl
   have ha5 := (zac H3.out 5).trans rfl
   have ha6 := (zac H3.out 6).trans rfl
   have ha7 := (zac H3.out 7).trans rfl
   have ha8 := (zac H3.out 8).trans rfl
   have ha9 := (zac H3.out 9).trans rfl
   have ha10 := (zac H3.out 10).trans rfl
   have ha11 := (zac H3.out 11).trans rfl
   have hi0 := zao HI.out
   have hw0 := zao H10.out
   have hwf := zaf H10.out 0
   have hx0 := zao H12.out
   have hxf := zaf H12.out 0
   have HN1 : zaa (w.heap.size + 1 + 1 < g6 ∧ g6 < g10 ∧ g10 < g12) := ⟨by omega, by omega, by omega⟩
   have HG12 : zaa (g12 < wz.heap.size) := ⟨zaO H12.out⟩
   have HTJ := zaa.mk (Kd.zbt (ok' := fun k => k < wz.heap.size) (Kd.S_bound HTI.out) (fun k hk => hk.2.2.1))
   go_wp2_with fail
   refine (zaF.calls k AB cB a.f10 a.f10 _ (Kd.C_below HRB.out HB.out) HCB.out HCY.out).mono ?_
   rintro e' w9 ⟨vb, rfl, hR, hb⟩
   obtain ⟨Bb, cb, rfl⟩ := Kd.zbP hR
   have HBB := zaa.mk (Kd.zbj (ok' := fun q => wz.heap.size ≤ q ∧ q < w9.heap.size) (Kd.zci hR) (fun q hq => ⟨hq.2.1, hq.2.2.1⟩))
   have HB9 := zaa.mk hb
   clear hR
   clear h20 ha0 ha1 ha2 ha3 ha4 ha5 ha6 ha7 ha8 ha9 ha10 ha11 hi0 hw0 hwf hx0 hxf
   replace H2 := zaa.mk (zan (by repeat (first | exact H2.out | apply zaj | apply zai | apply zak)) hb)
   replace H3 := zaa.mk (zan (by repeat (first | exact H3.out | apply zaj | apply zai | apply zak)) hb)
   replace H4 := zaa.mk (zan (by repeat (first | exact H4.out | apply zaj | apply zai | apply zak)) hb)
   replace HB := zaa.mk (zam (by repeat (first | exact HB.out | apply zad | apply zab | apply zae | apply zaB)) hb)
   replace HTI := zaa.mk (Kd.za4 HTI.out hb)
   replace HI := zaa.mk (zan (by repeat (first | exact HI.out | apply zaj | apply zai | apply zak)) hb)
   replace H10 := zaa.mk (zan (by repeat (first | exact H10.out | apply zaj | apply zai | apply zak)) hb)
   replace H12 := zaa.mk (zan (by repeat (first | exact H12.out | apply zaj | apply zai | apply zak)) hb)
   replace HTJ := zaa.mk (Kd.za4 HTJ.out hb)
   clear hb
   have h20 := zao H2.out
   have ha0 := (zac H3.out 0).trans rfl
   have ha1 := (zac H3.out 1).trans rfl
   have ha2 := (zac H3.out 2).trans rfl
   have ha3 := (zac H3.out 3).trans rfl
   have ha4 := (zac H3.out 4).trans rfl
   have ha5 := (zac H3.out 5).trans rfl
   have ha6 := (zac H3.out 6).trans rfl
   have ha7 := (zac H3.out 7).trans rfl
   have ha8 := (zac H3.out 8).trans rfl
   have ha9 := (zac H3.out 9).trans rfl
   have ha10 := (zac H3.out 10).trans rfl
   have ha11 := (zac H3.out 11).trans rfl
   have hi0 := zao HI.out
   have hw0 := zao H10.out
   have hwf := zaf H10.out 0
   have hx0 := zao H12.out
   have hxf := zaf H12.out 0
   go_wp2_with fail
   refine (zbT.calls k Ai ci l a.f1 a.f8 Bb cb a.f10 a.f11 r1 _ _ (Kd.zbx HTI.out).2.2 (Kd.zbx HTI.out).2.1 (Kd.zbR HBB.out).2.2 (Kd.zbR HBB.out).2.1 HFT.out).mono ?_
   rintro e' w10 ⟨vx, rfl, hS, hb⟩
   obtain ⟨Ax, cx, rfl⟩ := Kd.zbG hS
   have HX := zaa.mk hS
   have HBA := zaa.mk hb
   have HBC := zaa.mk (Kd.zcw (Kd.zcj HBB.out hb) (Nat.le_of_lt (by have := HN1.out; have := HG12.out; omega) : w.heap.size ≤ wz.heap.size))
   clear hS HBB
   clear h20 ha0 ha1 ha2 ha3 ha4 ha5 ha6 ha7 ha8 ha9 ha10 ha11 hi0 hw0 hwf hx0 hxf
   replace H2 := zaa.mk (zan (by repeat (first | exact H2.out | apply zaj | apply zai | apply zak)) hb)
   replace H3 := zaa.mk (zan (by repeat (first | exact H3.out | apply zaj | apply zai | apply zak)) hb)
   replace H4 := zaa.mk (zan (by repeat (first | exact H4.out | apply zaj | apply zai | apply zak)) hb)
   replace HB := zaa.mk (zam (by repeat (first | exact HB.out | apply zad | apply zab | apply zae | apply zaB)) hb)
   replace HTI := zaa.mk (Kd.za4 HTI.out hb)
   replace HI := zaa.mk (zan (by repeat (first | exact HI.out | apply zaj | apply zai | apply zak)) hb)
   replace H10 := zaa.mk (zan (by repeat (first | exact H10.out | apply zaj | apply zai | apply zak)) hb)
   replace H12 := zaa.mk (zan (by repeat (first | exact H12.out | apply zaj | apply zai | apply zak)) hb)
   replace HTJ := zaa.mk (Kd.za4 HTJ.out hb)
   clear hb
   obtain ⟨N0, hN0⟩ : ∃ N0, N0 = w9.heap.size := ⟨_, rfl⟩
   rw [← hN0] at HX HBC
   have HNB : zaa (N0 ≤ w10.heap.size ∧ wz.heap.size ≤ N0) := ⟨by rw [hN0]; exact HBA.out.size, by rw [hN0]; exact HB9.out.size⟩
   clear hN0
   have h20 := zao H2.out
   have ha0 := (zac H3.out 0).trans rfl
   have ha1 := (zac H3.out 1).trans rfl
   have ha2 := (zac H3.out 2).trans rfl
   have ha3 := (zac H3.out 3).trans rfl
   have ha4 := (zac H3.out 4).trans rfl
   have ha5 := (zac H3.out 5).trans rfl
   have ha6 := (zac H3.out 6).trans rfl
   have ha7 := (zac H3.out 7).trans rfl
   have ha8 := (zac H3.out 8).trans rfl
   have ha9 := (zac H3.out 9).trans rfl
   have ha10 := (zac H3.out 10).trans rfl
   have ha11 := (zac H3.out 11).trans rfl
   have hi0 := zao HI.out
   have hw0 := zao H10.out
   have hwf := zaf H10.out 0
   have hx0 := zao H12.out
   have hxf := zaf H12.out 0
   go_upto_region 47 with fail
   replace HBC := zaa.mk (Kd.R_set HBC.out H12.out (by decide) 0 (.slice Ax r1.length cx))
   clear h20 ha0 ha1 ha2 ha3 ha4 ha5 ha6 ha7 ha8 ha9 ha10 ha11 hi0 hw0 hwf hx0 hxf
   have hput := zaP H12.out 0 (.slice Ax r1.length cx) rfl
   have H2' := zaa.mk (zaD H2.out (p := ⟨g12, 0, none⟩) (by show _ ≠ g12; omega) (.slice Ax r1.length cx))
   have H3' := zaa.mk (zaD H3.out (p := ⟨g12, 0, none⟩) (by show _ ≠ g12; omega) (.slice Ax r1.length cx))
   have H4' := zaa.mk (zaD H4.out (p := ⟨g12, 0, none⟩) (by show _ ≠ g12; omega) (.slice Ax r1.length cx))
   have HB' := zaa.mk (HB.out.setCell (p := ⟨g12, 0, none⟩) (by show _ ≤ g12; omega) (.slice Ax r1.length cx))
   have HTI' := zaa.mk (Kd.S_set HTI.out H12.out (by decide) 0 (.slice Ax r1.length cx))
   have HI' := zaa.mk (zaD HI.out (p := ⟨g12, 0, none⟩) (by show _ ≠ g12; omega) (.slice Ax r1.length cx))
   have H10' := zaa.mk (zaD H10.out (p := ⟨g12, 0, none⟩) (by show _ ≠ g12; omega) (.slice Ax r1.length cx))
   have HTJ' := zaa.mk (Kd.S_set HTJ.out H12.out (by decide) 0 (.slice Ax r1.length cx))
   have HX' := zaa.mk (Kd.S_set HX.out H12.out (by decide) 0 (.slice Ax r1.length cx))
   replace H2 := H2'
   clear H2'
   replace H3 := H3'
   clear H3'
   replace H4 := H4'
   clear H4'
   replace HB := HB'
   clear HB'
   replace HTI := HTI'
   clear HTI'
   replace HI := HI'
   clear HI'
   replace H10 := H10'
   clear H10'
   replace HTJ := HTJ'
   clear HTJ'
   replace HX := HX'
   clear HX'
   replace H12 := zaa.mk hput
   clear hput
   have h20 := zao H2.out
   have ha0 := (zac H3.out 0).trans rfl
   have ha1 := (zac H3.out 1).trans rfl
   have ha2 := (zac H3.out 2).trans rfl
   have ha3 := (zac H3.out 3).trans rfl
   have ha4 := (zac H3.out 4).trans rfl
   have ha5 := (zac H3.out 5).trans rfl
   have ha6 := (zac H3.out 6).trans rfl
   have ha7 := (zac H3.out 7).trans rfl
   have ha8 := (zac H3.out 8).trans rfl
   have ha9 := (zac H3.out 9).trans rfl
   have ha10 := (zac H3.out 10).trans rfl
   have ha11 := (zac H3.out 11).trans rfl
   have hi0 := zao HI.out
   have hw0 := zao H10.out
   have hwf := zaf H10.out 0
   have hx0 := zao H12.out
   have hxf := zaf H12.out 0
   go_wp2_with fail
   refine (zaK.calls k (fun q => wz.heap.size ≤ q ∧ q < N0) _ a.f10 w _ HB.out HBC.out HBY.out).mono ?_
   rintro e' w14 ⟨rfl, hb, hk⟩
   clear h20 ha0 ha1 ha2 ha3 ha4 ha5 ha6 ha7 ha8 ha9 ha10 ha11 hi0 hw0 hwf hx0 hxf
   have HKK := zaa.mk hk
   replace H2 := zaa.mk ((hk.2 _ (zaO H2.out) (show ¬ (wz.heap.size ≤ w.heap.size ∧ w.heap.size < N0) by have := HN1.out; have := HG12.out; omega)).trans H2.out)
   replace H3 := zaa.mk ((hk.2 _ (zaO H3.out) (show ¬ (wz.heap.size ≤ w.heap.size + 1 ∧ w.heap.size + 1 < N0) by have := HN1.out; have := HG12.out; omega)).trans H3.out)
   replace H4 := zaa.mk ((hk.2 _ (zaO H4.out) (show ¬ (wz.heap.size ≤ w.heap.size + 1 + 1 ∧ w.heap.size + 1 + 1 < N0) by have := HN1.out; have := HG12.out; omega)).trans H4.out)
   replace HI := zaa.mk ((hk.2 _ (zaO HI.out) (show ¬ (wz.heap.size ≤ g6 ∧ g6 < N0) by have := HN1.out; have := HG12.out; omega)).trans HI.out)
   replace H10 := zaa.mk ((hk.2 _ (zaO H10.out) (show ¬ (wz.heap.size ≤ g10 ∧ g10 < N0) by have := HN1.out; have := HG12.out; omega)).trans H10.out)
   replace H12 := zaa.mk ((hk.2 _ (zaO H12.out) (show ¬ (wz.heap.size ≤ g12 ∧ g12 < N0) by have := HN1.out; have := HG12.out; omega)).trans H12.out)
   replace HTI := zaa.mk (Kd.S_step HTJ.out (fun q hok hlt => hk.2 q hlt (show ¬ (wz.heap.size ≤ q ∧ q < N0) by omega)))
   replace HTJ := zaa.mk (Kd.S_step HTJ.out (fun q hok hlt => hk.2 q hlt (show ¬ (wz.heap.size ≤ q ∧ q < N0) by omega)))
   replace HX := zaa.mk (Kd.zbt (ok' := fun _ => True) (Kd.S_step (Kd.S_bound HX.out) (fun q hq hlt => hk.2 q hlt (show ¬ (wz.heap.size ≤ q ∧ q < N0) by have := hq.2.1; omega))) (fun _ _ => trivial))
   replace HB := zaa.mk hb
   have hsz := hk.1
   rw [World.size_setCell] at hsz
   have HNC : zaa (N0 ≤ w14.heap.size) := ⟨Nat.le_trans HNB.out.1 hsz⟩
   clear hsz
   clear hb hk HBC
   have h20 := zao H2.out
   have ha0 := (zac H3.out 0).trans rfl
   have ha1 := (zac H3.out 1).trans rfl
   have ha2 := (zac H3.out 2).trans rfl
   have ha3 := (zac H3.out 3).trans rfl
   have ha4 := (zac H3.out 4).trans rfl
   have ha5 := (zac H3.out 5).trans rfl
   have ha6 := (zac H3.out 6).trans rfl
   have ha7 := (zac H3.out 7).trans rfl
   have ha8 := (zac H3.out 8).trans rfl
   have ha9 := (zac H3.out 9).trans rfl
   have ha10 := (zac H3.out 10).trans rfl
   have ha11 := (zac H3.out 11).trans rfl
   have hi0 := zao HI.out
   have hw0 := zao H10.out
   have hwf := zaf H10.out 0
   have hx0 := zao H12.out
   have hxf := zaf H12.out 0
   go_upto_region 65 with fail
   go_wp2_with fail
   refine (zbm.calls k Ax cx r1 _ Aw cw r1 _ true _ (Kd.zbx HX.out).2.2 (Kd.zbx HX.out).2.1 (HWC.out.1 _ HB.out (fun q hq hne => (HKK.out.2 q (by rw [World.size_setCell]; have := HNB.out; omega) (show ¬ (wz.heap.size ≤ q ∧ q < N0) by omega)).trans ((Below.heap_setCell _ _ _ q hne).trans ((HBA.out.block q (Nat.lt_of_lt_of_le hq HB9.out.size)).trans (HB9.out.block q hq))))) HWC.out.2 HTO.out).mono ?_
   rintro e' w11 ⟨rfl, hb⟩
   have HN3 : zaa (N0 ≤ w11.heap.size) := ⟨Nat.le_trans HNC.out hb.size⟩
   clear HWC HKK HBA HB9
   clear h20 ha0 ha1 ha2 ha3 ha4 ha5 ha6 ha7 ha8 ha9 ha10 ha11 hi0 hw0 hwf hx0 hxf
   replace H2 := zaa.mk (zan (by repeat (first | exact H2.out | apply zaj | apply zai | apply zak)) hb)
   replace H3 := zaa.mk (zan (by repeat (first | exact H3.out | apply zaj | apply zai | apply zak)) hb)
   replace H4 := zaa.mk (zan (by repeat (first | exact H4.out | apply zaj | apply zai | apply zak)) hb)
   replace HB := zaa.mk (zam (by repeat (first | exact HB.out | apply zad | apply zab | apply zae | apply zaB)) hb)
   replace HTI := zaa.mk (Kd.za4 HTI.out hb)
   replace HI := zaa.mk (zan (by repeat (first | exact HI.out | apply zaj | apply zai | apply zak)) hb)
   replace H10 := zaa.mk (zan (by repeat (first | exact H10.out | apply zaj | apply zai | apply zak)) hb)
   replace H12 := zaa.mk (zan (by repeat (first | exact H12.out | apply zaj | apply zai | apply zak)) hb)
   replace HTJ := zaa.mk (Kd.za4 HTJ.out hb)
   replace HX := zaa.mk (Kd.za4 HX.out hb)
   clear hb
   have h20 := zao H2.out
   have ha0 := (zac H3.out 0).trans rfl
   have ha1 := (zac H3.out 1).trans rfl
   have ha2 := (zac H3.out 2).trans rfl
   have ha3 := (zac H3.out 3).trans rfl
   have ha4 := (zac H3.out 4).trans rfl
   have ha5 := (zac H3.out 5).trans rfl
   have ha6 := (zac H3.out 6).trans rfl
   have ha7 := (zac H3.out 7).trans rfl
   have ha8 := (zac H3.out 8).trans rfl
   have ha9 := (zac H3.out 9).trans rfl
   have ha10 := (zac H3.out 10).trans rfl
   have ha11 := (zac H3.out 11).trans rfl
   have hi0 := zao HI.out
   have hw0 := zao H10.out
   have hwf := zaf H10.out 0
   have hx0 := zao H12.out
   have hxf := zaf H12.out 0
   go_wp2_with fail
   refine (za7.calls k Ai ci l A0 c0 l true _ (Kd.zbx HTI.out).2.2 (Kd.zbx HTI.out).2.1 (Kd.C_below HR0.out HB.out) HC0.out HEQ.out).mono ?_
   rintro e' w12 ⟨rfl, hb⟩
   have HN4 : zaa (N0 ≤ w12.heap.size) := ⟨Nat.le_trans HN3.out hb.size⟩
   clear h20 ha0 ha1 ha2 ha3 ha4 ha5 ha6 ha7 ha8 ha9 ha10 ha11 hi0 hw0 hwf hx0 hxf
   replace H2 := zaa.mk (zan (by repeat (first | exact H2.out | apply zaj | apply zai | apply zak)) hb)
   replace H3 := zaa.mk (zan (by repeat (first | exact H3.out | apply zaj | apply zai | apply zak)) hb)
   replace H4 := zaa.mk (zan (by repeat (first | exact H4.out | apply zaj | apply zai | apply zak)) hb)
   replace HB := zaa.mk (zam (by repeat (first | exact HB.out | apply zad | apply zab | apply zae | apply zaB)) hb)
   replace HTI := zaa.mk (Kd.za4 HTI.out hb)
   replace HI := zaa.mk (zan (by repeat (first | exact HI.out | apply zaj | apply zai | apply zak)) hb)
   replace H10 := zaa.mk (zan (by repeat (first | exact H10.out | apply zaj | apply zai | apply zak)) hb)
   replace H12 := zaa.mk (zan (by repeat (first | exact H12.out | apply zaj | apply zai | apply zak)) hb)
   replace HTJ := zaa.mk (Kd.za4 HTJ.out hb)
   replace HX := zaa.mk (Kd.za4 HX.out hb)
   clear hb
   have h20 := zao H2.out
   have ha0 := (zac H3.out 0).trans rfl
   have ha1 := (zac H3.out 1).trans rfl
   have ha2 := (zac H3.out 2).trans rfl
   have ha3 := (zac H3.out 3).trans rfl
   have ha4 := (zac H3.out 4).trans rfl
   have ha5 := (zac H3.out 5).trans rfl
   have ha6 := (zac H3.out 6).trans rfl
   have ha7 := (zac H3.out 7).trans rfl
   have ha8 := (zac H3.out 8).trans rfl
   have ha9 := (zac H3.out 9).trans rfl
   have ha10 := (zac H3.out 10).trans rfl
   have ha11 := (zac H3.out 11).trans rfl
   have hi0 := zao HI.out
   have hw0 := zao H10.out
   have hwf := zaf H10.out 0
   have hx0 := zao H12.out
   have hxf := zaf H12.out 0
   go_wp2_with fail
   refine (tree_spoil k _ r1 (upto_write w12 N0) w12 (upto_below_write HN4.out) (by rw [zcb HN4.out]; exact HX.out) HSP.out.1 HSP.out.2.1 HSP.out.2.2).mono ?_
   rintro e' w13 ⟨rfl, hb⟩
   clear h20 ha0 ha1 ha2 ha3 ha4 ha5 ha6 ha7 ha8 ha9 ha10 ha11 hi0 hw0 hwf hx0 hxf
   obtain ⟨hbw, hk⟩ := upto_back_write HN4.out hb HB.out (by have := HN1.out; have := HG12.out; have := HNB.out; omega)
   replace H2 := zaa.mk ((hk _ (show w.heap.size < N0 by have := HN1.out; have := HG12.out; have := HNB.out; omega)).trans H2.out)
   replace H3 := zaa.mk ((hk _ (show w.heap.size + 1 < N0 by have := HN1.out; have := HG12.out; have := HNB.out; omega)).trans H3.out)
   replace H4 := zaa.mk ((hk _ (show w.heap.size + 1 + 1 < N0 by have := HN1.out; have := HG12.out; have := HNB.out; omega)).trans H4.out)
   replace HI := zaa.mk ((hk _ (show g6 < N0 by have := HN1.out; have := HG12.out; have := HNB.out; omega)).trans HI.out)
   replace H10 := zaa.mk ((hk _ (show g10 < N0 by have := HN1.out; have := HG12.out; have := HNB.out; omega)).trans H10.out)
   replace HTI := zaa.mk (Kd.S_step HTJ.out (fun k hok _ => hk k (by have := HNB.out; omega)))
   replace HB := zaa.mk hbw
   clear hbw hb hk HTJ HX
   have h20 := zao H2.out
   have ha0 := (zac H3.out 0).trans rfl
   have ha1 := (zac H3.out 1).trans rfl
   have ha2 := (zac H3.out 2).trans rfl
   have ha3 := (zac H3.out 3).trans rfl
   have ha4 := (zac H3.out 4).trans rfl
   have ha5 := (zac H3.out 5).trans rfl
   have ha6 := (zac H3.out 6).trans rfl
   have ha7 := (zac H3.out 7).trans rfl
   have ha8 := (zac H3.out 8).trans rfl
   have ha9 := (zac H3.out 9).trans rfl
   have ha10 := (zac H3.out 10).trans rfl
   have ha11 := (zac H3.out 11).trans rfl
   have hi0 := zao HI.out
   have hw0 := zao H10.out
   have hwf := zaf H10.out 0
   go_upto_region 67 with fail
   refine start_ (n := 9) (S := fun w' => w'.cell? ⟨g10, 0, none⟩ = some (.slice Aw r1.length cw) ∧ w'.cell? ⟨w.heap.size, 0, none⟩ = some (.slice A0 l.length c0) ∧ w'.cell? ⟨g6, 0, none⟩ = some (.slice Ai l.length ci)) (ds := [7]) #[false, false, false, false, false, false, false, false, false] (by kernel_rfl) rfl rfl ⟨hw0, h20, hi0⟩ (fun hHeld => ?_)
   refine zbO (i := 1) (N := some 418) (v := ?_) (a' := ?_) #[false, true, false, false, false, false, false, false, false] rfl rfl (by kernel_rfl) (fun _ _ _ h => h) (Or.inl ⟨by rfl, ?_⟩) ?_ ?_
   rotate_left
   ·intro w'
    go_simp
    with_reducible rfl
   rotate_left
   ·simp only [Act.put, List.setIfInBounds_toArray, List.set_cons_zero, List.set_cons_succ, zbo, zbr]
    rfl
   refine zbO (i := 2) (N := some 419) (v := ?_) (a' := ?_) #[false, true, true, false, false, false, false, false, false] rfl rfl (by kernel_rfl) (fun _ _ _ h => h) (Or.inl ⟨by rfl, ?_⟩) ?_ ?_
   rotate_left
   ·intro w'
    go_simp
    with_reducible rfl
   rotate_left
   ·simp only [Act.put, List.setIfInBounds_toArray, List.set_cons_zero, List.set_cons_succ, zbo, zbr]
    rfl
   refine take_ (i := 0) (N := some 417) (v := ?_) (a' := ?_) #[true, true, true, false, false, false, false, false, false] rfl rfl (by kernel_rfl) (fun _ _ _ h => h) (Or.inl ⟨by rfl, ?_⟩) hHeld ?_ ?_
   rotate_left
   ·rintro w' ⟨s0, s1, s2⟩
    go_simp
    with_reducible rfl
   rotate_left
   ·simp only [Act.put, List.setIfInBounds_toArray, List.set_cons_zero, List.set_cons_succ, zbo, zbr]
    rfl
   refine take_ (i := 3) (N := some 420) (v := ?_) (a' := ?_) #[true, true, true, true, false, false, false, false, false] rfl rfl (by kernel_rfl) (fun _ _ _ h => h) (Or.inl ⟨by rfl, ?_⟩) hHeld ?_ ?_
   rotate_left
   ·rintro w' ⟨s0, s1, s2⟩
    go_simp
    with_reducible rfl
   rotate_left
   ·simp only [Act.put, List.setIfInBounds_toArray, List.set_cons_zero, List.set_cons_succ, zbo, zbr]
    rfl
   refine take_ (i := 4) (N := some 421) (v := ?_) (a' := ?_) #[true, true, true, true, true, false, false, false, false] rfl rfl (by kernel_rfl) (fun _ _ _ h => h) (Or.inl ⟨by rfl, ?_⟩) hHeld ?_ ?_
   rotate_left
   ·rintro w' ⟨s0, s1, s2⟩
    go_simp
    with_reducible rfl
   rotate_left
   ·simp only [Act.put, List.setIfInBounds_toArray, List.set_cons_zero, List.set_cons_succ, zbo, zbr]
    rfl
   refine one_ (i := 5) (N := some 422) #[true, true, true, true, true, true, false, false, false] rfl rfl (by kernel_rfl) (by decide) (fun K hK => ?_)
   refine goes_ Tryz.func17 (by kernel_rfl) rfl #[.agg #[.slice Ai l.length ci], .agg #[.slice A0 l.length c0]] (by rfl) rfl rfl (by simp only [List.map_toArray, List.map_cons, List.map_nil]; rfl) ?_
   with_reducible refine (za7.calls k Ai ci l A0 c0 l true _ (Kd.C_below (Kd.zbx HTI.out).2.2 (by repeat (first | exact Below.refl _ _ | apply zaB | apply zab | apply zae))) (Kd.zbx HTI.out).2.1 (Kd.C_below HR0.out (by repeat (first | exact HB.out | apply zaB | apply zab | apply zae))) HC0.out HEQ.out).mono ?_
   rintro e' w9 ⟨rfl, hb⟩
   have HB9 := zaa.mk (zam (by repeat (first | exact HB.out | apply zaB | apply zab | apply zae)) hb)
   have H49 := zaa.mk (zan (by repeat (first | exact H4.out | apply zak | apply zaj)) hb)
   have h209 := zao (zan (by repeat (first | exact H2.out | apply zak | apply zaj)) hb)
   have hi09 := zao (zan (by repeat (first | exact HI.out | apply zak | apply zaj)) hb)
   have hw09 := zao (zan (by repeat (first | exact H10.out | apply zak | apply zaj)) hb)
   have h49 := zao H49.out
   have hf9 := zaf H49.out 0
   clear hb
   refine ⟨_, rfl, ?_⟩
   refine hK.out _ _ ⟨hw09, h209, hi09⟩ (fun hHeld => ?_)
   clear hK K
   refine norm_ (a' := ?_) ?_ ?_
   rotate_left
   ·show Act.put _ (some 422) _ = _
    simp only [Act.put, List.setIfInBounds_toArray, List.set_cons_zero, List.set_cons_succ, zbo, zbr]
    rfl
   refine zbO (i := 6) (N := some 423) (v := ?_) (a' := ?_) #[true, true, true, true, true, true, true, false, false] rfl rfl (by kernel_rfl) (fun _ _ _ h => h) (Or.inl ⟨by rfl, ?_⟩) ?_ ?_
   rotate_left
   ·intro w'
    go_simp
    with_reducible rfl
   rotate_left
   ·simp only [Act.put, List.setIfInBounds_toArray, List.set_cons_zero, List.set_cons_succ, zbo, zbr]
    rfl
   refine last_ (i := 7) (N := none) #[true, true, true, true, true, true, true, true, false] rfl rfl (by kernel_rfl) (by decide) (fun K hK => ?_)
   refine skip_ (w1 := ?_) (by rfl) rfl ?_ ?_
   rotate_left
   ·go_simp
    rfl
   refine hK.out _ _ ?_
   clear hK K
   refine zbO (i := 8) (N := some 5) (v := ?_) (a' := ?_) #[true, true, true, true, true, true, true, true, true] rfl rfl (by kernel_rfl) (fun _ _ _ h => h) (Or.inl ⟨by rfl, ?_⟩) ?_ ?_
   rotate_left
   ·intro w'
    go_simp
    with_reducible rfl
   rotate_left
   ·simp only [Act.put, List.setIfInBounds_toArray, List.set_cons_zero, List.set_cons_succ, zbo, zbr]
    rfl
   refine done_ (by kernel_rfl) ?_
   go_wp2
   refine bodyPost_ret (zbl rfl _ _ (w.heap.size + 1 + 1) 24 #[.slice Aw r1.length cw] (0, 0) _ rfl (zaP H49.out 0 _ rfl) Tryz.underlying24 rfl (by kernel_rfl)) rfl ?_
   exact ⟨⟨_, _, _, rfl⟩, HB9.out.setCell (p := ⟨w.heap.size + 1 + 1, 0, none⟩) (by show _ ≤ w.heap.size + 1 + 1; omega) _⟩
end Go.Proofs.YtjghephnjkffcaaGreat.PAll
