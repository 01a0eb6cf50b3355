/- Parts of one proof, merged by a program of this repo: walks over the given program and plain facts. -/
import Derived.Test.YtjghephnjkffcaaGreatMTreeLinks11
import Derived.Test.YtjghephnjkffcaaGreatMTreeLinks4
import Derived.Test.YtjghephnjkffcaaGreatMTreeLinks8
import Derived.Test.YtjghephnjkffcaaGreatMTreeLinks10
import Derived.Test.YtjghephnjkffcaaGreatMTreeLinks5
import Derived.Test.YtjghephnjkffcaaGreatMTreeLinks2
import Derived.Deep.RegionHeld3
import Derived.Deep.DrawnRows
import Derived.Deep.DeepCutAuto
namespace Go.Proofs.YtjghephnjkffcaaGreat.PAll
open Go.RowKit Go.Proofs.YtjghephnjkffcaaGreatW.PrintWords Go.Proofs.YtjghephnjkffcaaGreatW.PrintLast Go.Proofs.YtjghephnjkffcaaGreatW.PrintMore
attribute [local go_sem] zbQ zbO zb6 zb5 zbD zbC zbP zbN
set_option linter.unusedVariables false
set_option linter.unusedSimpArgs false
theorem zaB {W : World} {g : Nat} {a : Value} {t : TypeId} (h : W.heap[g]? = some (.cells #[a] t (0, 0))) : W.cell? ⟨g, 0, none⟩ = some a := (zaa h 0).trans rfl
theorem drawn_below_linkc {w w' : World} (h : zaW w w') : Below w.heap.size w w' := by
 obtain ⟨nd, rfl⟩ := h
 exact zac (Below.refl _ _) nd
def upto_linkc (W : World) (n : Nat) : World := { W with heap := W.heap.extract 0 n }
theorem zcj {W : World} {n : Nat} (h : n ≤ W.heap.size) : (upto_linkc W n).heap.size = n := by
 show (W.heap.extract 0 n).size = n
 rw [Array.size_extract]; omega
theorem upto_below_linkc {W : World} {n : Nat} (h : n ≤ W.heap.size) : Below (upto_linkc W n).heap.size (upto_linkc W n) W := by
 refine ⟨rfl, rfl, rfl, by rw [zcj h]; exact h, fun k hk => ?_⟩
 rw [zcj h] at hk
 show W.heap[k]? = (W.heap.extract 0 n)[k]?
 rw [Array.getElem?_extract, if_pos (by omega), Nat.zero_add]
theorem upto_back_linkc {W W' w : World} {n : Nat} (h : n ≤ W.heap.size) (hb : Below (upto_linkc W n).heap.size (upto_linkc W n) W') (hw : Below w.heap.size w W) (hwn : w.heap.size ≤ n) : Below w.heap.size w W' ∧ ∀ k, k < n → W'.heap[k]? = W.heap[k]? := by
 have h1 : ∀ k, k < n → W'.heap[k]? = W.heap[k]? := fun k hk => by
  have h2 := hb.block k (by rw [zcj h]; exact hk)
  rw [h2]
  show (W.heap.extract 0 n)[k]? = W.heap[k]?
  rw [Array.getElem?_extract, if_pos (by omega), Nat.zero_add]
 exact ⟨⟨hb.os.trans hw.os, hb.tape.trans hw.tape, hb.output.trans hw.output, by have := hb.size; rw [zcj h] at this; omega, fun k hk => (h1 k (by omega)).trans (hw.block k hk)⟩, h1⟩
set_option maxHeartbeats 8000000 in
set_option maxRecDepth 100000 in
theorem zbi.linkc (k : Nat) (A0 : Option Addr) (c0 : Nat) (l : List S40) (a : S44) (AB : Option Addr) (cB : Nat) (w : World) (hr0 : Kd.C k40 w A0 l.length l) (hc0 : l.length ≤ c0)
  (b2 : Bool) (hcp : zaV.f k l = some l) (hmy : zar.f k l = some true) (htm : zaX.f a.f11 = some true) (hb1 : zaU.f l a.f1 = some false) (hb2 : zaU.f l a.f2 = some b2) (heq : zaL.f k l l = some true) (hft : zbu.f k l a.f1 a.f2 a.f4 a.f11 = some (l, 100)) (hto : za5.f k l 100 l 100 = some true) (hsp : (∀ x ∈ l, zaM.f k x.f1 = some ()) ∧ l.length ≤ 1000000 ∧ ∀ x ∈ l, x.f2.length ≤ 1000000) :
  Calls Tryz.prog 19 #[.agg #[.slice A0 l.length c0], .agg #[.int .i64 4, .int .i64 a.f1, .int .i64 a.f2, .int .i64 a.f3, .string a.f4, .string a.f5, .int .i64 a.f6, .bool a.f7, .int .i64 a.f8, .int .i64 a.f9, .slice AB a.f10.length cB, .int .i64 a.f11]] w fun e' w' => (∃ (A : Option Addr) (q c : Nat), e' = .returned (.tuple #[.agg #[.slice A q c], .bool true])) ∧ Below w.heap.size w w' := by
 have HR0 := zab.mk hr0
 have HC0 := zab.mk hc0
 have HCP := zab.mk hcp
 have HMY := zab.mk hmy
 have HTM := zab.mk htm
 have HB1 := zab.mk hb1
 have HB2 := zab.mk hb2
 have HEQ := zab.mk heq
 have HFT := zab.mk hft
 have HTO := zab.mk hto
 have HSP := zab.mk hsp
 have HWI : zab (zbf.f 4 14 = some 4) := ⟨by kernel_rfl⟩
 have hut := Tryz.underlying24
 have hua := Tryz.underlying44
 have HB := zab.mk (zad (zad (zad (Below.refl w.heap.size w) (.cells #[.slice A0 l.length c0] 24)) (.cells #[.int .i64 4, .int .i64 a.f1, .int .i64 a.f2, .int .i64 a.f3, .string a.f4, .string a.f5, .int .i64 a.f6, .bool a.f7, .int .i64 a.f8, .int .i64 a.f9, .slice AB a.f10.length cB, .int .i64 a.f11] 44)) (.cells #[.slice none 0 0] 24))
 have H2 := zab.mk (zae (zae (zbd w (.cells #[.slice A0 l.length c0] 24)) (.cells #[.int .i64 4, .int .i64 a.f1, .int .i64 a.f2, .int .i64 a.f3, .string a.f4, .string a.f5, .int .i64 a.f6, .bool a.f7, .int .i64 a.f8, .int .i64 a.f9, .slice AB a.f10.length cB, .int .i64 a.f11] 44)) (.cells #[.slice none 0 0] 24))
 have H3 := zab.mk (zae (zbd (w.alloc (.cells #[.slice A0 l.length c0] 24)) (.cells #[.int .i64 4, .int .i64 a.f1, .int .i64 a.f2, .int .i64 a.f3, .string a.f4, .string a.f5, .int .i64 a.f6, .bool a.f7, .int .i64 a.f8, .int .i64 a.f9, .slice AB a.f10.length cB, .int .i64 a.f11] 44)) (.cells #[.slice none 0 0] 24))
 have H4 := zab.mk (zbd ((w.alloc (.cells #[.slice A0 l.length c0] 24)).alloc (.cells #[.int .i64 4, .int .i64 a.f1, .int .i64 a.f2, .int .i64 a.f3, .string a.f4, .string a.f5, .int .i64 a.f6, .bool a.f7, .int .i64 a.f8, .int .i64 a.f9, .slice AB a.f10.length cB, .int .i64 a.f11] 44)) (.cells #[.slice none 0 0] 24))
 rw [World.size_alloc] at H3
 rw [World.size_alloc, World.size_alloc] at H4
 clear hr0 hc0 hcp hmy htm hb1 hb2 heq hft hto hsp
 have h20 := zaB H2.out
 have ha0 := (zaa H3.out 0).trans rfl
 have ha1 := (zaa H3.out 1).trans rfl
 have ha2 := (zaa H3.out 2).trans rfl
 have ha3 := (zaa H3.out 3).trans rfl
 have ha4 := (zaa H3.out 4).trans rfl
 have ha5 := (zaa H3.out 5).trans rfl
 have ha6 := (zaa H3.out 6).trans rfl
 have ha7 := (zaa H3.out 7).trans rfl
 have ha8 := (zaa H3.out 8).trans rfl
 have ha9 := (zaa H3.out 9).trans rfl
 have ha11 := (zaa H3.out 11).trans rfl
 go_enter Tryz.func19, Tryz.ntmps19
 go_wp2_with (first | fail)
 refine (zaV.calls k A0 c0 l l _ (Kd.C_below HR0.out HB.out) HC0.out HCP.out).mono ?_
 rintro e' w1 ⟨v, rfl, hS, hb⟩
 obtain ⟨Ai, ci, rfl⟩ := Kd.zby hS
 have HTI := zab.mk (Kd.zbJ hS HB.out.size)
 clear hS
 clear h20 ha0 ha1 ha2 ha3 ha4 ha5 ha6 ha7 ha8 ha9 ha11
 replace H2 := zab.mk (zal (by repeat (first | exact H2.out | apply zah | apply zae | apply zaj)) hb)
 replace H3 := zab.mk (zal (by repeat (first | exact H3.out | apply zah | apply zae | apply zaj)) hb)
 replace H4 := zab.mk (zal (by repeat (first | exact H4.out | apply zah | apply zae | apply zaj)) hb)
 replace HB := zab.mk (zan (by repeat (first | exact HB.out | apply zad | apply zac | apply zaf | apply zas)) hb)
 clear hb
 have h20 := zaB H2.out
 have ha0 := (zaa H3.out 0).trans rfl
 have ha1 := (zaa H3.out 1).trans rfl
 have ha2 := (zaa H3.out 2).trans rfl
 have ha3 := (zaa H3.out 3).trans rfl
 have ha4 := (zaa H3.out 4).trans rfl
 have ha5 := (zaa H3.out 5).trans rfl
 have ha6 := (zaa H3.out 6).trans rfl
 have ha7 := (zaa H3.out 7).trans rfl
 have ha8 := (zaa H3.out 8).trans rfl
 have ha9 := (zaa H3.out 9).trans rfl
 have ha11 := (zaa H3.out 11).trans rfl
 have HLT4 : zab (w.heap.size + 1 + 1 < w1.heap.size) := ⟨zaZ H4.out⟩
 go_upto_region 2 with fail
 clear h20 ha0 ha1 ha2 ha3 ha4 ha5 ha6 ha7 ha8 ha9 ha11
 replace H2 := zab.mk (zae H2.out (.cells #[.slice Ai l.length ci] 24))
 replace H3 := zab.mk (zae H3.out (.cells #[.slice Ai l.length ci] 24))
 replace H4 := zab.mk (zae H4.out (.cells #[.slice Ai l.length ci] 24))
 replace HB := zab.mk (zad HB.out (.cells #[.slice Ai l.length ci] 24))
 replace HTI := zab.mk (Kd.zaI HTI.out (zad (Below.refl _ _) (.cells #[.slice Ai l.length ci] 24)))
 have HI := zab.mk (zbd w1 (.cells #[.slice Ai l.length ci] 24))
 have hg64 : w.heap.size + 1 + 1 < w1.heap.size := HLT4.out
 obtain ⟨g6, hg6⟩ : ∃ g6, g6 = w1.heap.size := ⟨_, rfl⟩
 rw [← hg6] at HI hg64 ⊢
 clear hg6 HLT4
 have h20 := zaB H2.out
 have ha0 := (zaa H3.out 0).trans rfl
 have ha1 := (zaa H3.out 1).trans rfl
 have ha2 := (zaa H3.out 2).trans rfl
 have ha3 := (zaa H3.out 3).trans rfl
 have ha4 := (zaa H3.out 4).trans rfl
 have ha5 := (zaa H3.out 5).trans rfl
 have ha6 := (zaa H3.out 6).trans rfl
 have ha7 := (zaa H3.out 7).trans rfl
 have ha8 := (zaa H3.out 8).trans rfl
 have ha9 := (zaa H3.out 9).trans rfl
 have ha11 := (zaa H3.out 11).trans rfl
 have hi0 := zaB HI.out
 go_wp2_with (first | fail)
 refine (zar.calls k A0 c0 l true _ (Kd.C_below HR0.out HB.out) HC0.out HMY.out).mono ?_
 rintro e' w2 ⟨rfl, hb⟩
 clear h20 ha0 ha1 ha2 ha3 ha4 ha5 ha6 ha7 ha8 ha9 ha11 hi0
 replace H2 := zab.mk (zal (by repeat (first | exact H2.out | apply zah | apply zae | apply zaj)) hb)
 replace H3 := zab.mk (zal (by repeat (first | exact H3.out | apply zah | apply zae | apply zaj)) hb)
 replace H4 := zab.mk (zal (by repeat (first | exact H4.out | apply zah | apply zae | apply zaj)) hb)
 replace HB := zab.mk (zan (by repeat (first | exact HB.out | apply zad | apply zac | apply zaf | apply zas)) hb)
 replace HTI := zab.mk (Kd.zaI HTI.out hb)
 replace HI := zab.mk (zal (by repeat (first | exact HI.out | apply zah | apply zae | apply zaj)) hb)
 clear hb
 have h20 := zaB H2.out
 have ha0 := (zaa H3.out 0).trans rfl
 have ha1 := (zaa H3.out 1).trans rfl
 have ha2 := (zaa H3.out 2).trans rfl
 have ha3 := (zaa H3.out 3).trans rfl
 have ha4 := (zaa H3.out 4).trans rfl
 have ha5 := (zaa H3.out 5).trans rfl
 have ha6 := (zaa H3.out 6).trans rfl
 have ha7 := (zaa H3.out 7).trans rfl
 have ha8 := (zaa H3.out 8).trans rfl
 have ha9 := (zaa H3.out 9).trans rfl
 have ha11 := (zaa H3.out 11).trans rfl
 have hi0 := zaB HI.out
 go_wp2_with fail
 refine (zaX.calls a.f11 _ _ HTM.out).mono ?_
 rintro e' w3 ⟨rfl, hd⟩
 have hb := drawn_below_linkc hd
 clear hd
 clear h20 ha0 ha1 ha2 ha3 ha4 ha5 ha6 ha7 ha8 ha9 ha11 hi0
 replace H2 := zab.mk (zal (by repeat (first | exact H2.out | apply zah | apply zae | apply zaj)) hb)
 replace H3 := zab.mk (zal (by repeat (first | exact H3.out | apply zah | apply zae | apply zaj)) hb)
 replace H4 := zab.mk (zal (by repeat (first | exact H4.out | apply zah | apply zae | apply zaj)) hb)
 replace HB := zab.mk (zan (by repeat (first | exact HB.out | apply zad | apply zac | apply zaf | apply zas)) hb)
 replace HTI := zab.mk (Kd.zaI HTI.out hb)
 replace HI := zab.mk (zal (by repeat (first | exact HI.out | apply zah | apply zae | apply zaj)) hb)
 clear hb
 have h20 := zaB H2.out
 have ha0 := (zaa H3.out 0).trans rfl
 have ha1 := (zaa H3.out 1).trans rfl
 have ha2 := (zaa H3.out 2).trans rfl
 have ha3 := (zaa H3.out 3).trans rfl
 have ha4 := (zaa H3.out 4).trans rfl
 have ha5 := (zaa H3.out 5).trans rfl
 have ha6 := (zaa H3.out 6).trans rfl
 have ha7 := (zaa H3.out 7).trans rfl
 have ha8 := (zaa H3.out 8).trans rfl
 have ha9 := (zaa H3.out 9).trans rfl
 have ha11 := (zaa H3.out 11).trans rfl
 have hi0 := zaB HI.out
 go_wp2_with (first | fail)
 refine (zaU.calls A0 c0 l a.f1 false _ (Kd.C_below HR0.out HB.out) HC0.out HB1.out).mono ?_
 rintro e' w4 ⟨rfl, hb⟩
 clear h20 ha0 ha1 ha2 ha3 ha4 ha5 ha6 ha7 ha8 ha9 ha11 hi0
 replace H2 := zab.mk (zal (by repeat (first | exact H2.out | apply zah | apply zae | apply zaj)) hb)
 replace H3 := zab.mk (zal (by repeat (first | exact H3.out | apply zah | apply zae | apply zaj)) hb)
 replace H4 := zab.mk (zal (by repeat (first | exact H4.out | apply zah | apply zae | apply zaj)) hb)
 replace HB := zab.mk (zan (by repeat (first | exact HB.out | apply zad | apply zac | apply zaf | apply zas)) hb)
 replace HTI := zab.mk (Kd.zaI HTI.out hb)
 replace HI := zab.mk (zal (by repeat (first | exact HI.out | apply zah | apply zae | apply zaj)) hb)
 clear hb
 have h20 := zaB H2.out
 have ha0 := (zaa H3.out 0).trans rfl
 have ha1 := (zaa H3.out 1).trans rfl
 have ha2 := (zaa H3.out 2).trans rfl
 have ha3 := (zaa H3.out 3).trans rfl
 have ha4 := (zaa H3.out 4).trans rfl
 have ha5 := (zaa H3.out 5).trans rfl
 have ha6 := (zaa H3.out 6).trans rfl
 have ha7 := (zaa H3.out 7).trans rfl
 have ha8 := (zaa H3.out 8).trans rfl
 have ha9 := (zaa H3.out 9).trans rfl
 have ha11 := (zaa H3.out 11).trans rfl
 have hi0 := zaB HI.out
 go_wp2_with (first | fail)
 refine (zaU.calls A0 c0 l a.f2 b2 _ (Kd.C_below HR0.out HB.out) HC0.out HB2.out).mono ?_
 rintro e' w5 ⟨rfl, hb⟩
 clear h20 ha0 ha1 ha2 ha3 ha4 ha5 ha6 ha7 ha8 ha9 ha11 hi0
 replace H2 := zab.mk (zal (by repeat (first | exact H2.out | apply zah | apply zae | apply zaj)) hb)
 replace H3 := zab.mk (zal (by repeat (first | exact H3.out | apply zah | apply zae | apply zaj)) hb)
 replace H4 := zab.mk (zal (by repeat (first | exact H4.out | apply zah | apply zae | apply zaj)) hb)
 replace HB := zab.mk (zan (by repeat (first | exact HB.out | apply zad | apply zac | apply zaf | apply zas)) hb)
 replace HTI := zab.mk (Kd.zaI HTI.out hb)
 replace HI := zab.mk (zal (by repeat (first | exact HI.out | apply zah | apply zae | apply zaj)) hb)
 clear hb
 have h20 := zaB H2.out
 have ha0 := (zaa H3.out 0).trans rfl
 have ha1 := (zaa H3.out 1).trans rfl
 have ha2 := (zaa H3.out 2).trans rfl
 have ha3 := (zaa H3.out 3).trans rfl
 have ha4 := (zaa H3.out 4).trans rfl
 have ha5 := (zaa H3.out 5).trans rfl
 have ha6 := (zaa H3.out 6).trans rfl
 have ha7 := (zaa H3.out 7).trans rfl
 have ha8 := (zaa H3.out 8).trans rfl
 have ha9 := (zaa H3.out 9).trans rfl
 have ha11 := (zaa H3.out 11).trans rfl
 have hi0 := zaB HI.out
 have HLT : zab (g6 < w5.heap.size) := ⟨zaZ HI.out⟩
 go_upto_region 6 with fail
 clear h20 ha0 ha1 ha2 ha3 ha4 ha5 ha6 ha7 ha8 ha9 ha11 hi0
 replace H2 := zab.mk (zae H2.out (.cells #[.slice A0 l.length c0] 24))
 replace H3 := zab.mk (zae H3.out (.cells #[.slice A0 l.length c0] 24))
 replace H4 := zab.mk (zae H4.out (.cells #[.slice A0 l.length c0] 24))
 replace HB := zab.mk (zad HB.out (.cells #[.slice A0 l.length c0] 24))
 replace HTI := zab.mk (Kd.zaI HTI.out (zad (Below.refl _ _) (.cells #[.slice A0 l.length c0] 24)))
 replace HI := zab.mk (zae HI.out (.cells #[.slice A0 l.length c0] 24))
 have H10 := zab.mk (zbd w5 (.cells #[.slice A0 l.length c0] 24))
 have hg10 : g6 < w5.heap.size := HLT.out
 obtain ⟨g10, hgq⟩ : ∃ g10, g10 = w5.heap.size := ⟨_, rfl⟩
 rw [← hgq] at H10 hg10 ⊢
 clear hgq HLT
 have h20 := zaB H2.out
 have ha0 := (zaa H3.out 0).trans rfl
 have ha1 := (zaa H3.out 1).trans rfl
 have ha2 := (zaa H3.out 2).trans rfl
 have ha3 := (zaa H3.out 3).trans rfl
 have ha4 := (zaa H3.out 4).trans rfl
 have ha5 := (zaa H3.out 5).trans rfl
 have ha6 := (zaa H3.out 6).trans rfl
 have ha7 := (zaa H3.out 7).trans rfl
 have ha8 := (zaa H3.out 8).trans rfl
 have ha9 := (zaa H3.out 9).trans rfl
 have ha11 := (zaa H3.out 11).trans rfl
 have hi0 := zaB HI.out
 have hw0 := zaB H10.out
 have hwf := zai H10.out 0
 go_wp2_with (first | fail)
 refine (zar.calls k A0 c0 l true _ (Kd.C_below HR0.out HB.out) HC0.out HMY.out).mono ?_
 rintro e' w6 ⟨rfl, hb⟩
 clear h20 ha0 ha1 ha2 ha3 ha4 ha5 ha6 ha7 ha8 ha9 ha11 hi0 hw0 hwf
 replace H2 := zab.mk (zal (by repeat (first | exact H2.out | apply zah | apply zae | apply zaj)) hb)
 replace H3 := zab.mk (zal (by repeat (first | exact H3.out | apply zah | apply zae | apply zaj)) hb)
 replace H4 := zab.mk (zal (by repeat (first | exact H4.out | apply zah | apply zae | apply zaj)) hb)
 replace HB := zab.mk (zan (by repeat (first | exact HB.out | apply zad | apply zac | apply zaf | apply zas)) hb)
 replace HTI := zab.mk (Kd.zaI HTI.out hb)
 replace HI := zab.mk (zal (by repeat (first | exact HI.out | apply zah | apply zae | apply zaj)) hb)
 replace H10 := zab.mk (zal (by repeat (first | exact H10.out | apply zah | apply zae | apply zaj)) hb)
 clear hb
 have h20 := zaB H2.out
 have ha0 := (zaa H3.out 0).trans rfl
 have ha1 := (zaa H3.out 1).trans rfl
 have ha2 := (zaa H3.out 2).trans rfl
 have ha3 := (zaa H3.out 3).trans rfl
 have ha4 := (zaa H3.out 4).trans rfl
 have ha5 := (zaa H3.out 5).trans rfl
 have ha6 := (zaa H3.out 6).trans rfl
 have ha7 := (zaa H3.out 7).trans rfl
 have ha8 := (zaa H3.out 8).trans rfl
 have ha9 := (zaa H3.out 9).trans rfl
 have ha11 := (zaa H3.out 11).trans rfl
 have hi0 := zaB HI.out
 have hw0 := zaB H10.out
 have hwf := zai H10.out 0
 have HLT : zab (g10 < w6.heap.size) := ⟨zaZ H10.out⟩
 go_upto_region 9 with fail
 clear h20 ha0 ha1 ha2 ha3 ha4 ha5 ha6 ha7 ha8 ha9 ha11 hi0 hw0 hwf
 replace H2 := zab.mk (zae H2.out (.cells #[.slice none 0 0] 24))
 replace H3 := zab.mk (zae H3.out (.cells #[.slice none 0 0] 24))
 replace H4 := zab.mk (zae H4.out (.cells #[.slice none 0 0] 24))
 replace HB := zab.mk (zad HB.out (.cells #[.slice none 0 0] 24))
 replace HTI := zab.mk (Kd.zaI HTI.out (zad (Below.refl _ _) (.cells #[.slice none 0 0] 24)))
 replace HI := zab.mk (zae HI.out (.cells #[.slice none 0 0] 24))
 replace H10 := zab.mk (zae H10.out (.cells #[.slice none 0 0] 24))
 have H12 := zab.mk (zbd w6 (.cells #[.slice none 0 0] 24))
 have hg12 : g10 < w6.heap.size := HLT.out
 obtain ⟨g12, hgq⟩ : ∃ g12, g12 = w6.heap.size := ⟨_, rfl⟩
 rw [← hgq] at H12 hg12
 (try rw [← hgq])
 (try simp only [World.size_setCell, ← hgq])
 clear hgq HLT
 have h20 := zaB H2.out
 have ha0 := (zaa H3.out 0).trans rfl
 have ha1 := (zaa H3.out 1).trans rfl
 have ha2 := (zaa H3.out 2).trans rfl
 have ha3 := (zaa H3.out 3).trans rfl
 have ha4 := (zaa H3.out 4).trans rfl
 have ha5 := (zaa H3.out 5).trans rfl
 have ha6 := (zaa H3.out 6).trans rfl
 have ha7 := (zaa H3.out 7).trans rfl
 have ha8 := (zaa H3.out 8).trans rfl
 have ha9 := (zaa H3.out 9).trans rfl
 have ha11 := (zaa H3.out 11).trans rfl
 have hi0 := zaB HI.out
 have hw0 := zaB H10.out
 have hwf := zai H10.out 0
 have hx0 := zaB H12.out
 have hxf := zai H12.out 0
 go_wp2_with fail
 refine (zbf.calls _ 14 _ _ HWI.out).mono ?_
 rintro e' w7 ⟨rfl, hd⟩
 have hb := drawn_below_linkc hd
 clear hd
 clear h20 ha0 ha1 ha2 ha3 ha4 ha5 ha6 ha7 ha8 ha9 ha11 hi0 hw0 hwf hx0 hxf
 replace H2 := zab.mk (zal (by repeat (first | exact H2.out | apply zah | apply zae | apply zaj)) hb)
 replace H3 := zab.mk (zal (by repeat (first | exact H3.out | apply zah | apply zae | apply zaj)) hb)
 replace H4 := zab.mk (zal (by repeat (first | exact H4.out | apply zah | apply zae | apply zaj)) hb)
 replace HB := zab.mk (zan (by repeat (first | exact HB.out | apply zad | apply zac | apply zaf | apply zas)) hb)
 replace HTI := zab.mk (Kd.zaI HTI.out hb)
 replace HI := zab.mk (zal (by repeat (first | exact HI.out | apply zah | apply zae | apply zaj)) hb)
 replace H10 := zab.mk (zal (by repeat (first | exact H10.out | apply zah | apply zae | apply zaj)) hb)
 replace H12 := zab.mk (zal (by repeat (first | exact H12.out | apply zah | apply zae | apply zaj)) hb)
 clear hb
 have h20 := zaB H2.out
 have ha0 := (zaa H3.out 0).trans rfl
 have ha1 := (zaa H3.out 1).trans rfl
 have ha2 := (zaa H3.out 2).trans rfl
 have ha3 := (zaa H3.out 3).trans rfl
 have ha4 := (zaa H3.out 4).trans rfl
 have ha5 := (zaa H3.out 5).trans rfl
 have ha6 := (zaa H3.out 6).trans rfl
 have ha7 := (zaa H3.out 7).trans rfl
 have ha8 := (zaa H3.out 8).trans rfl
 have ha9 := (zaa H3.out 9).trans rfl
 have ha11 := (zaa H3.out 11).trans rfl
 have hi0 := zaB HI.out
 have hw0 := zaB H10.out
 have hwf := zai H10.out 0
 have hx0 := zaB H12.out
 have hxf := zai H12.out 0
 have HN1 : zab (w.heap.size + 1 + 1 < g6 ∧ g6 < g10 ∧ g10 < g12) := ⟨by omega, by omega, by omega⟩
 go_wp2_with fail
 have HG12 : zab (g12 < w7.heap.size) := ⟨by have h := zaZ H12.out; (try rw [World.size_setCell] at h); exact h⟩
 have HTJ := zab.mk (Kd.zbB (ok' := fun k => k < w7.heap.size) (Kd.zcA HTI.out) (fun k hk => by have h := hk.2.2.1; (try rw [World.size_setCell] at h); exact h))
 refine (zbu.calls k Ai ci l a.f1 a.f2 a.f4 a.f11 l 100 _ (Kd.za4 HTI.out).2.2 (Kd.za4 HTI.out).2.1 HFT.out).mono ?_
 rintro e' w10 ⟨vx, rfl, hS, hb⟩
 have HSZ : zab (w7.heap.size ≤ w10.heap.size) := ⟨by have h := hb.size; (try rw [World.size_setCell] at h); exact h⟩
 obtain ⟨Ax, cx, rfl⟩ := Kd.zby hS
 have HX := zab.mk hS
 clear hS
 clear h20 ha0 ha1 ha2 ha3 ha4 ha5 ha6 ha7 ha8 ha9 ha11 hi0 hw0 hwf hx0 hxf
 replace H2 := zab.mk (zal (by repeat (first | exact H2.out | apply zah | apply zae | apply zaj)) hb)
 replace H3 := zab.mk (zal (by repeat (first | exact H3.out | apply zah | apply zae | apply zaj)) hb)
 replace H4 := zab.mk (zal (by repeat (first | exact H4.out | apply zah | apply zae | apply zaj)) hb)
 replace HB := zab.mk (zan (by repeat (first | exact HB.out | apply zad | apply zac | apply zaf | apply zas)) hb)
 replace HTI := zab.mk (Kd.zaI HTI.out hb)
 replace HI := zab.mk (zal (by repeat (first | exact HI.out | apply zah | apply zae | apply zaj)) hb)
 replace H10 := zab.mk (zal (by repeat (first | exact H10.out | apply zah | apply zae | apply zaj)) hb)
 replace H12 := zab.mk (zal (by repeat (first | exact H12.out | apply zah | apply zae | apply zaj)) hb)
 replace HTJ := zab.mk (Kd.zaI HTJ.out hb)
 clear hb
 obtain ⟨N0, hN0⟩ : ∃ N0, N0 = w7.heap.size := ⟨_, rfl⟩
 rw [← hN0] at HG12 HX HTJ
 have HNB : zab (N0 ≤ w10.heap.size) := ⟨by rw [hN0]; have := HSZ.out; exact this⟩
 clear hN0 HSZ
 have h20 := zaB H2.out
 have ha0 := (zaa H3.out 0).trans rfl
 have ha1 := (zaa H3.out 1).trans rfl
 have ha2 := (zaa H3.out 2).trans rfl
 have ha3 := (zaa H3.out 3).trans rfl
 have ha4 := (zaa H3.out 4).trans rfl
 have ha5 := (zaa H3.out 5).trans rfl
 have ha6 := (zaa H3.out 6).trans rfl
 have ha7 := (zaa H3.out 7).trans rfl
 have ha8 := (zaa H3.out 8).trans rfl
 have ha9 := (zaa H3.out 9).trans rfl
 have ha11 := (zaa H3.out 11).trans rfl
 have hi0 := zaB HI.out
 have hw0 := zaB H10.out
 have hwf := zai H10.out 0
 have hx0 := zaB H12.out
 have hxf := zai H12.out 0
 go_upto_region 65 with fail
 clear h20 ha0 ha1 ha2 ha3 ha4 ha5 ha6 ha7 ha8 ha9 ha11 hi0 hw0 hwf hx0 hxf
 have hput := zaQ H12.out 0 (.slice Ax l.length cx) rfl
 have H2' := zab.mk (zaH H2.out (p := ⟨g12, 0, none⟩) (by show _ ≠ g12; omega) (.slice Ax l.length cx))
 have H3' := zab.mk (zaH H3.out (p := ⟨g12, 0, none⟩) (by show _ ≠ g12; omega) (.slice Ax l.length cx))
 have H4' := zab.mk (zaH H4.out (p := ⟨g12, 0, none⟩) (by show _ ≠ g12; omega) (.slice Ax l.length cx))
 have HB' := zab.mk (HB.out.setCell (p := ⟨g12, 0, none⟩) (by show _ ≤ g12; omega) (.slice Ax l.length cx))
 have HTI' := zab.mk (Kd.zct HTI.out H12.out (by decide) 0 (.slice Ax l.length cx))
 have HI' := zab.mk (zaH HI.out (p := ⟨g12, 0, none⟩) (by show _ ≠ g12; omega) (.slice Ax l.length cx))
 have H10' := zab.mk (zaH H10.out (p := ⟨g12, 0, none⟩) (by show _ ≠ g12; omega) (.slice Ax l.length cx))
 have HTJ' := zab.mk (Kd.zct HTJ.out H12.out (by decide) 0 (.slice Ax l.length cx))
 have HX' := zab.mk (Kd.zct HX.out H12.out (by decide) 0 (.slice Ax l.length cx))
 replace H2 := H2'
 clear H2'
 replace H3 := H3'
 clear H3'
 replace H4 := H4'
 clear H4'
 replace HB := HB'
 clear HB'
 replace HTI := HTI'
 clear HTI'
 replace HI := HI'
 clear HI'
 replace H10 := H10'
 clear H10'
 replace HTJ := HTJ'
 clear HTJ'
 replace HX := HX'
 clear HX'
 replace H12 := zab.mk hput
 clear hput
 have h20 := zaB H2.out
 have ha0 := (zaa H3.out 0).trans rfl
 have ha1 := (zaa H3.out 1).trans rfl
 have ha2 := (zaa H3.out 2).trans rfl
 have ha3 := (zaa H3.out 3).trans rfl
 have ha4 := (zaa H3.out 4).trans rfl
 have ha5 := (zaa H3.out 5).trans rfl
 have ha6 := (zaa H3.out 6).trans rfl
 have ha7 := (zaa H3.out 7).trans rfl
 have ha8 := (zaa H3.out 8).trans rfl
 have ha9 := (zaa H3.out 9).trans rfl
 have ha11 := (zaa H3.out 11).trans rfl
 have hi0 := zaB HI.out
 have hw0 := zaB H10.out
 have hwf := zai H10.out 0
 have hx0 := zaB H12.out
 have hxf := zai H12.out 0
 go_wp2_with fail
 refine (za5.calls k Ax cx l 100 A0 c0 l 100 true _ (Kd.za4 HX.out).2.2 (Kd.za4 HX.out).2.1 (Kd.C_below HR0.out HB.out) HC0.out HTO.out).mono ?_
 rintro e' w11 ⟨rfl, hb⟩
 have HN3 : zab (N0 ≤ w11.heap.size) := ⟨Nat.le_trans (by rw [World.size_setCell]; exact HNB.out) hb.size⟩
 clear h20 ha0 ha1 ha2 ha3 ha4 ha5 ha6 ha7 ha8 ha9 ha11 hi0 hw0 hwf hx0 hxf
 replace H2 := zab.mk (zal (by repeat (first | exact H2.out | apply zah | apply zae | apply zaj)) hb)
 replace H3 := zab.mk (zal (by repeat (first | exact H3.out | apply zah | apply zae | apply zaj)) hb)
 replace H4 := zab.mk (zal (by repeat (first | exact H4.out | apply zah | apply zae | apply zaj)) hb)
 replace HB := zab.mk (zan (by repeat (first | exact HB.out | apply zad | apply zac | apply zaf | apply zas)) hb)
 replace HTI := zab.mk (Kd.zaI HTI.out hb)
 replace HI := zab.mk (zal (by repeat (first | exact HI.out | apply zah | apply zae | apply zaj)) hb)
 replace H10 := zab.mk (zal (by repeat (first | exact H10.out | apply zah | apply zae | apply zaj)) hb)
 replace H12 := zab.mk (zal (by repeat (first | exact H12.out | apply zah | apply zae | apply zaj)) hb)
 replace HTJ := zab.mk (Kd.zaI HTJ.out hb)
 replace HX := zab.mk (Kd.zaI HX.out hb)
 clear hb
 have h20 := zaB H2.out
 have ha0 := (zaa H3.out 0).trans rfl
 have ha1 := (zaa H3.out 1).trans rfl
 have ha2 := (zaa H3.out 2).trans rfl
 have ha3 := (zaa H3.out 3).trans rfl
 have ha4 := (zaa H3.out 4).trans rfl
 have ha5 := (zaa H3.out 5).trans rfl
 have ha6 := (zaa H3.out 6).trans rfl
 have ha7 := (zaa H3.out 7).trans rfl
 have ha8 := (zaa H3.out 8).trans rfl
 have ha9 := (zaa H3.out 9).trans rfl
 have ha11 := (zaa H3.out 11).trans rfl
 have hi0 := zaB HI.out
 have hw0 := zaB H10.out
 have hwf := zai H10.out 0
 have hx0 := zaB H12.out
 have hxf := zai H12.out 0
 go_wp2_with fail
 refine (zaL.calls k Ai ci l A0 c0 l true _ (Kd.za4 HTI.out).2.2 (Kd.za4 HTI.out).2.1 (Kd.C_below HR0.out HB.out) HC0.out HEQ.out).mono ?_
 rintro e' w12 ⟨rfl, hb⟩
 have HN4 : zab (N0 ≤ w12.heap.size) := ⟨Nat.le_trans HN3.out hb.size⟩
 clear h20 ha0 ha1 ha2 ha3 ha4 ha5 ha6 ha7 ha8 ha9 ha11 hi0 hw0 hwf hx0 hxf
 replace H2 := zab.mk (zal (by repeat (first | exact H2.out | apply zah | apply zae | apply zaj)) hb)
 replace H3 := zab.mk (zal (by repeat (first | exact H3.out | apply zah | apply zae | apply zaj)) hb)
 replace H4 := zab.mk (zal (by repeat (first | exact H4.out | apply zah | apply zae | apply zaj)) hb)
 replace HB := zab.mk (zan (by repeat (first | exact HB.out | apply zad | apply zac | apply zaf | apply zas)) hb)
 replace HTI := zab.mk (Kd.zaI HTI.out hb)
 replace HI := zab.mk (zal (by repeat (first | exact HI.out | apply zah | apply zae | apply zaj)) hb)
 replace H10 := zab.mk (zal (by repeat (first | exact H10.out | apply zah | apply zae | apply zaj)) hb)
 replace H12 := zab.mk (zal (by repeat (first | exact H12.out | apply zah | apply zae | apply zaj)) hb)
 replace HTJ := zab.mk (Kd.zaI HTJ.out hb)
 replace HX := zab.mk (Kd.zaI HX.out hb)
 clear hb
 have h20 := zaB H2.out
 have ha0 := (zaa H3.out 0).trans rfl
 have ha1 := (zaa H3.out 1).trans rfl
 have ha2 := (zaa H3.out 2).trans rfl
 have ha3 := (zaa H3.out 3).trans rfl
 have ha4 := (zaa H3.out 4).trans rfl
 have ha5 := (zaa H3.out 5).trans rfl
 have ha6 := (zaa H3.out 6).trans rfl
 have ha7 := (zaa H3.out 7).trans rfl
 have ha8 := (zaa H3.out 8).trans rfl
 have ha9 := (zaa H3.out 9).trans rfl
 have ha11 := (zaa H3.out 11).trans rfl
 have hi0 := zaB HI.out
 have hw0 := zaB H10.out
 have hwf := zai H10.out 0
 have hx0 := zaB H12.out
 have hxf := zai H12.out 0
 go_wp2_with fail
 refine (tree_spoil k _ l (upto_linkc w12 N0) w12 (upto_below_linkc HN4.out) (by rw [zcj HN4.out]; exact HX.out) HSP.out.1 HSP.out.2.1 HSP.out.2.2).mono ?_
 rintro e' w13 ⟨rfl, hb⟩
 clear h20 ha0 ha1 ha2 ha3 ha4 ha5 ha6 ha7 ha8 ha9 ha11 hi0 hw0 hwf hx0 hxf
 obtain ⟨hbw, hk⟩ := upto_back_linkc HN4.out hb HB.out (by have := HN1.out; have := HG12.out; omega)
 replace H2 := zab.mk ((hk _ (show w.heap.size < N0 by have := HN1.out; have := HG12.out; omega)).trans H2.out)
 replace H3 := zab.mk ((hk _ (show w.heap.size + 1 < N0 by have := HN1.out; have := HG12.out; omega)).trans H3.out)
 replace H4 := zab.mk ((hk _ (show w.heap.size + 1 + 1 < N0 by have := HN1.out; have := HG12.out; omega)).trans H4.out)
 replace HI := zab.mk ((hk _ (show g6 < N0 by have := HN1.out; have := HG12.out; omega)).trans HI.out)
 replace H10 := zab.mk ((hk _ (show g10 < N0 by have := HN1.out; have := HG12.out; omega)).trans H10.out)
 replace HTI := zab.mk (Kd.S_step HTJ.out (fun k hok _ => hk k hok))
 replace HB := zab.mk hbw
 clear hbw hb hk HTJ HX
 have h20 := zaB H2.out
 have ha0 := (zaa H3.out 0).trans rfl
 have ha1 := (zaa H3.out 1).trans rfl
 have ha2 := (zaa H3.out 2).trans rfl
 have ha3 := (zaa H3.out 3).trans rfl
 have ha4 := (zaa H3.out 4).trans rfl
 have ha5 := (zaa H3.out 5).trans rfl
 have ha6 := (zaa H3.out 6).trans rfl
 have ha7 := (zaa H3.out 7).trans rfl
 have ha8 := (zaa H3.out 8).trans rfl
 have ha9 := (zaa H3.out 9).trans rfl
 have ha11 := (zaa H3.out 11).trans rfl
 have hi0 := zaB HI.out
 have hw0 := zaB H10.out
 have hwf := zai H10.out 0
 go_upto_region 67 with fail
 refine start_ (n := 9) (S := fun w' => w'.cell? ⟨g10, 0, none⟩ = some (.slice A0 l.length c0) ∧ w'.cell? ⟨w.heap.size, 0, none⟩ = some (.slice A0 l.length c0) ∧ w'.cell? ⟨g6, 0, none⟩ = some (.slice Ai l.length ci)) (ds := [7]) #[false, false, false, false, false, false, false, false, false] (by kernel_rfl) rfl rfl ⟨hw0, h20, hi0⟩ (fun hHeld => ?_)
 refine zb9 (i := 1) (N := some 418) (v := ?_) (a' := ?_) #[false, true, false, false, false, false, false, false, false] rfl rfl (by kernel_rfl) (fun _ _ _ h => h) (Or.inl ⟨by rfl, ?_⟩) ?_ ?_
 rotate_left
 ·intro w'
  go_simp
  with_reducible rfl
 rotate_left
 ·simp only [Act.put, List.setIfInBounds_toArray, List.set_cons_zero, List.set_cons_succ, zbo, zbq]
  rfl
 refine zb9 (i := 2) (N := some 419) (v := ?_) (a' := ?_) #[false, true, true, false, false, false, false, false, false] rfl rfl (by kernel_rfl) (fun _ _ _ h => h) (Or.inl ⟨by rfl, ?_⟩) ?_ ?_
 rotate_left
 ·intro w'
  go_simp
  with_reducible rfl
 rotate_left
 ·simp only [Act.put, List.setIfInBounds_toArray, List.set_cons_zero, List.set_cons_succ, zbo, zbq]
  rfl
 refine take_ (i := 0) (N := some 417) (v := ?_) (a' := ?_) #[true, true, true, false, false, false, false, false, false] rfl rfl (by kernel_rfl) (fun _ _ _ h => h) (Or.inl ⟨by rfl, ?_⟩) hHeld ?_ ?_
 rotate_left
 ·rintro w' ⟨s0, s1, s2⟩
  go_simp
  with_reducible rfl
 rotate_left
 ·simp only [Act.put, List.setIfInBounds_toArray, List.set_cons_zero, List.set_cons_succ, zbo, zbq]
  rfl
 refine take_ (i := 3) (N := some 420) (v := ?_) (a' := ?_) #[true, true, true, true, false, false, false, false, false] rfl rfl (by kernel_rfl) (fun _ _ _ h => h) (Or.inl ⟨by rfl, ?_⟩) hHeld ?_ ?_
 rotate_left
 ·rintro w' ⟨s0, s1, s2⟩
  go_simp
  with_reducible rfl
 rotate_left
 ·simp only [Act.put, List.setIfInBounds_toArray, List.set_cons_zero, List.set_cons_succ, zbo, zbq]
  rfl
 refine take_ (i := 4) (N := some 421) (v := ?_) (a' := ?_) #[true, true, true, true, true, false, false, false, false] rfl rfl (by kernel_rfl) (fun _ _ _ h => h) (Or.inl ⟨by rfl, ?_⟩) hHeld ?_ ?_
 rotate_left
 ·rintro w' ⟨s0, s1, s2⟩
  go_simp
  with_reducible rfl
 rotate_left
 ·simp only [Act.put, List.setIfInBounds_toArray, List.set_cons_zero, List.set_cons_succ, zbo, zbq]
  rfl
 refine one_ (i := 5) (N := some 422) #[true, true, true, true, true, true, false, false, false] rfl rfl (by kernel_rfl) (by decide) (fun K hK => ?_)
 refine goes_ Tryz.func17 (by kernel_rfl) rfl #[.agg #[.slice Ai l.length ci], .agg #[.slice A0 l.length c0]] (by rfl) rfl rfl (by simp only [List.map_toArray, List.map_cons, List.map_nil]; rfl) ?_
 with_reducible refine (zaL.calls k Ai ci l A0 c0 l true _ (Kd.C_below (Kd.za4 HTI.out).2.2 (by repeat (first | exact Below.refl _ _ | apply zas | apply zac | apply zaf))) (Kd.za4 HTI.out).2.1 (Kd.C_below HR0.out (by repeat (first | exact HB.out | apply zas | apply zac | apply zaf))) HC0.out HEQ.out).mono ?_
 rintro e' w9 ⟨rfl, hb⟩
 have HB9 := zab.mk (zan (by repeat (first | exact HB.out | apply zas | apply zac | apply zaf)) hb)
 have H49 := zab.mk (zal (by repeat (first | exact H4.out | apply zaj | apply zah)) hb)
 have h209 := zaB (zal (by repeat (first | exact H2.out | apply zaj | apply zah)) hb)
 have hi09 := zaB (zal (by repeat (first | exact HI.out | apply zaj | apply zah)) hb)
 have hw09 := zaB (zal (by repeat (first | exact H10.out | apply zaj | apply zah)) hb)
 have h49 := zaB H49.out
 have hf9 := zai H49.out 0
 clear hb
 refine ⟨_, rfl, ?_⟩
 refine hK.out _ _ ⟨hw09, h209, hi09⟩ (fun hHeld => ?_)
 clear hK K
 refine norm_ (a' := ?_) ?_ ?_
 rotate_left
 ·show Act.put _ (some 422) _ = _
  simp only [Act.put, List.setIfInBounds_toArray, List.set_cons_zero, List.set_cons_succ, zbo, zbq]
  rfl
 refine zb9 (i := 6) (N := some 423) (v := ?_) (a' := ?_) #[true, true, true, true, true, true, true, false, false] rfl rfl (by kernel_rfl) (fun _ _ _ h => h) (Or.inl ⟨by rfl, ?_⟩) ?_ ?_
 rotate_left
 ·intro w'
  go_simp
  with_reducible rfl
 rotate_left
 ·simp only [Act.put, List.setIfInBounds_toArray, List.set_cons_zero, List.set_cons_succ, zbo, zbq]
  rfl
 refine last_ (i := 7) (N := none) #[true, true, true, true, true, true, true, true, false] rfl rfl (by kernel_rfl) (by decide) (fun K hK => ?_)
 refine skip_ (w1 := ?_) (by rfl) rfl ?_ ?_
 rotate_left
 ·go_simp
  rfl
 refine hK.out _ _ ?_
 clear hK K
 refine zb9 (i := 8) (N := some 5) (v := ?_) (a' := ?_) #[true, true, true, true, true, true, true, true, true] rfl rfl (by kernel_rfl) (fun _ _ _ h => h) (Or.inl ⟨by rfl, ?_⟩) ?_ ?_
 rotate_left
 ·intro w'
  go_simp
  with_reducible rfl
 rotate_left
 ·simp only [Act.put, List.setIfInBounds_toArray, List.set_cons_zero, List.set_cons_succ, zbo, zbq]
  rfl
 refine done_ (by kernel_rfl) ?_
 go_wp2
 refine bodyPost_ret (zbz rfl _ _ (w.heap.size + 1 + 1) 24 #[.slice A0 l.length c0] (0, 0) _ rfl (zaQ H49.out 0 _ rfl) Tryz.underlying24 rfl (by kernel_rfl)) rfl ?_
 exact ⟨⟨_, _, _, rfl⟩, HB9.out.setCell (p := ⟨w.heap.size + 1 + 1, 0, none⟩) (by show _ ≤ w.heap.size + 1 + 1; omega) _⟩
end Go.Proofs.YtjghephnjkffcaaGreat.PAll
