/- Parts of one proof, merged by a program of this repo: walks over the given program and plain facts. -/
import Derived.Test.YtjghephnjkffcaaGreatMTreeReads4
import Derived.Test.YtjghephnjkffcaaGreatMTreeReads8
import Derived.Test.YtjghephnjkffcaaGreatMTreeReads11
import Derived.Test.YtjghephnjkffcaaGreatMTreeReads5
import Derived.Test.YtjghephnjkffcaaGreatMTreeReads2
import Derived.Deep.RegionHeld3
import Derived.Deep.DrawnRows
import Derived.Deep.DeepCutAuto
namespace Go.Proofs.YtjghephnjkffcaaGreat.PAll
open Go.RowKit Go.Proofs.YtjghephnjkffcaaGreatW.PrintWords Go.Proofs.YtjghephnjkffcaaGreatW.PrintLast Go.Proofs.YtjghephnjkffcaaGreatW.PrintMore
attribute [local go_sem] zbN zbL zb5 zb4 zbB zbA zbM zbK
set_option linter.unusedVariables false
set_option linter.unusedSimpArgs false
theorem zaR {W : World} {g : Nat} {a : Value} {t : TypeId} (h : W.heap[g]? = some (.cells #[a] t (0, 0))) : W.cell? ⟨g, 0, none⟩ = some a := (zad h 0).trans rfl
theorem drawn_below_readb {w w' : World} (h : zaY w w') : Below w.heap.size w w' := by
 obtain ⟨nd, rfl⟩ := h
 exact zab (Below.refl _ _) nd
theorem zbZ (a : Int) (w : World) : Calls Tryz.prog 15 #[.int .i64 a] w fun e w' => e = .returned (.int .i64 a) ∧ w = w' := by
 go_enter Tryz.func15, Tryz.ntmps15
 go_wp2
 go_ret
 exact ⟨rfl, rfl⟩
set_option maxHeartbeats 8000000 in
set_option maxRecDepth 100000 in
theorem zbb.readb (k : Nat) (A0 : Option Addr) (c0 : Nat) (l : List S40) (a : S44) (AB : Option Addr) (cB : Nat) (w : World) (hr0 : Kd.C k40 w A0 l.length l) (hc0 : l.length ≤ c0)
  (b2 : Bool) (hcp : za2.f k l = some l) (hmy : zar.f k l = some true) (htm : zaX.f a.f11 = some false) (hb1 : zaT.f l a.f1 = some false) (hb2 : zaT.f l a.f2 = some b2) (heq : za6.f k l l = some true)
  (hft : zby.f k l a.f1 a.f8 a.f9 = some ([], 100)) (heb : zaz.f k [] [] = some true) (hby : zaE.f k [] = some ()) :
  Calls Tryz.prog 19 #[.agg #[.slice A0 l.length c0], .agg #[.int .i64 8, .int .i64 a.f1, .int .i64 a.f2, .int .i64 a.f3, .string a.f4, .string a.f5, .int .i64 a.f6, .bool a.f7, .int .i64 a.f8, .int .i64 a.f9, .slice AB a.f10.length cB, .int .i64 a.f11]] w fun e' w' => (∃ (A : Option Addr) (q c : Nat), e' = .returned (.tuple #[.agg #[.slice A q c], .bool true])) ∧ Below w.heap.size w w' := by
 have HR0 := zaa.mk hr0
 have HC0 := zaa.mk hc0
 have HCP := zaa.mk hcp
 have HMY := zaa.mk hmy
 have HTM := zaa.mk htm
 have HB1 := zaa.mk hb1
 have HB2 := zaa.mk hb2
 have HEQ := zaa.mk heq
 have HFT := zaa.mk hft
 have HEB := zaa.mk heb
 have HBY := zaa.mk hby
 have HWI : zaa (za8.f 8 14 = some 8) := ⟨by kernel_rfl⟩
 have hut := Tryz.underlying24
 have hua := Tryz.underlying44
 have HB := zaa.mk (zac (zac (zac (Below.refl w.heap.size w) (.cells #[.slice A0 l.length c0] 24)) (.cells #[.int .i64 8, .int .i64 a.f1, .int .i64 a.f2, .int .i64 a.f3, .string a.f4, .string a.f5, .int .i64 a.f6, .bool a.f7, .int .i64 a.f8, .int .i64 a.f9, .slice AB a.f10.length cB, .int .i64 a.f11] 44)) (.cells #[.slice none 0 0] 24))
 have H2 := zaa.mk (zaf (zaf (zbc w (.cells #[.slice A0 l.length c0] 24)) (.cells #[.int .i64 8, .int .i64 a.f1, .int .i64 a.f2, .int .i64 a.f3, .string a.f4, .string a.f5, .int .i64 a.f6, .bool a.f7, .int .i64 a.f8, .int .i64 a.f9, .slice AB a.f10.length cB, .int .i64 a.f11] 44)) (.cells #[.slice none 0 0] 24))
 have H3 := zaa.mk (zaf (zbc (w.alloc (.cells #[.slice A0 l.length c0] 24)) (.cells #[.int .i64 8, .int .i64 a.f1, .int .i64 a.f2, .int .i64 a.f3, .string a.f4, .string a.f5, .int .i64 a.f6, .bool a.f7, .int .i64 a.f8, .int .i64 a.f9, .slice AB a.f10.length cB, .int .i64 a.f11] 44)) (.cells #[.slice none 0 0] 24))
 have H4 := zaa.mk (zbc ((w.alloc (.cells #[.slice A0 l.length c0] 24)).alloc (.cells #[.int .i64 8, .int .i64 a.f1, .int .i64 a.f2, .int .i64 a.f3, .string a.f4, .string a.f5, .int .i64 a.f6, .bool a.f7, .int .i64 a.f8, .int .i64 a.f9, .slice AB a.f10.length cB, .int .i64 a.f11] 44)) (.cells #[.slice none 0 0] 24))
 rw [World.size_alloc] at H3
 rw [World.size_alloc, World.size_alloc] at H4
 clear hr0 hc0 hcp hmy htm hb1 hb2 heq hft heb hby
 have h20 := zaR H2.out
 have ha0 := (zad H3.out 0).trans rfl
 have ha1 := (zad H3.out 1).trans rfl
 have ha2 := (zad H3.out 2).trans rfl
 have ha8 := (zad H3.out 8).trans rfl
 have ha9 := (zad H3.out 9).trans rfl
 have ha11 := (zad H3.out 11).trans rfl
 go_enter Tryz.func19, Tryz.ntmps19
 go_wp2_with (first | (go_at_call 15; refine (zbZ _ _).mono ?_; rintro e w' ⟨rfl, rfl⟩))
 refine (za2.calls k A0 c0 l l _ (Kd.C_below HR0.out HB.out) HC0.out HCP.out).mono ?_
 rintro e' w1 ⟨v, rfl, hS, hb⟩
 obtain ⟨Ai, ci, rfl⟩ := Kd.zbV hS
 have HTI := zaa.mk (Kd.zbY hS HB.out.size)
 clear hS
 clear h20 ha0 ha1 ha2 ha8 ha9 ha11
 replace H2 := zaa.mk (zam (by repeat (first | exact H2.out | apply zah | apply zaf | apply zaj)) hb)
 replace H3 := zaa.mk (zam (by repeat (first | exact H3.out | apply zah | apply zaf | apply zaj)) hb)
 replace H4 := zaa.mk (zam (by repeat (first | exact H4.out | apply zah | apply zaf | apply zaj)) hb)
 replace HB := zaa.mk (zan (by repeat (first | exact HB.out | apply zac | apply zab | apply zae | apply zax)) hb)
 clear hb
 have h20 := zaR H2.out
 have ha0 := (zad H3.out 0).trans rfl
 have ha1 := (zad H3.out 1).trans rfl
 have ha2 := (zad H3.out 2).trans rfl
 have ha8 := (zad H3.out 8).trans rfl
 have ha9 := (zad H3.out 9).trans rfl
 have ha11 := (zad H3.out 11).trans rfl
 have HLT4 : zaa (w.heap.size + 1 + 1 < w1.heap.size) := ⟨zaP H4.out⟩
 go_upto_region 2 with fail
 clear h20 ha0 ha1 ha2 ha8 ha9 ha11
 replace H2 := zaa.mk (zaf H2.out (.cells #[.slice Ai l.length ci] 24))
 replace H3 := zaa.mk (zaf H3.out (.cells #[.slice Ai l.length ci] 24))
 replace H4 := zaa.mk (zaf H4.out (.cells #[.slice Ai l.length ci] 24))
 replace HB := zaa.mk (zac HB.out (.cells #[.slice Ai l.length ci] 24))
 replace HTI := zaa.mk (Kd.zaQ HTI.out (zac (Below.refl _ _) (.cells #[.slice Ai l.length ci] 24)))
 have HI := zaa.mk (zbc w1 (.cells #[.slice Ai l.length ci] 24))
 have hg64 : w.heap.size + 1 + 1 < w1.heap.size := HLT4.out
 obtain ⟨g6, hg6⟩ : ∃ g6, g6 = w1.heap.size := ⟨_, rfl⟩
 rw [← hg6] at HI hg64 ⊢
 clear hg6 HLT4
 have h20 := zaR H2.out
 have ha0 := (zad H3.out 0).trans rfl
 have ha1 := (zad H3.out 1).trans rfl
 have ha2 := (zad H3.out 2).trans rfl
 have ha8 := (zad H3.out 8).trans rfl
 have ha9 := (zad H3.out 9).trans rfl
 have ha11 := (zad H3.out 11).trans rfl
 have hi0 := zaR HI.out
 go_wp2_with (first | (go_at_call 15; refine (zbZ _ _).mono ?_; rintro e w' ⟨rfl, rfl⟩))
 refine (zar.calls k A0 c0 l true _ (Kd.C_below HR0.out HB.out) HC0.out HMY.out).mono ?_
 rintro e' w2 ⟨rfl, hb⟩
 clear h20 ha0 ha1 ha2 ha8 ha9 ha11 hi0
 replace H2 := zaa.mk (zam (by repeat (first | exact H2.out | apply zah | apply zaf | apply zaj)) hb)
 replace H3 := zaa.mk (zam (by repeat (first | exact H3.out | apply zah | apply zaf | apply zaj)) hb)
 replace H4 := zaa.mk (zam (by repeat (first | exact H4.out | apply zah | apply zaf | apply zaj)) hb)
 replace HB := zaa.mk (zan (by repeat (first | exact HB.out | apply zac | apply zab | apply zae | apply zax)) hb)
 replace HTI := zaa.mk (Kd.zaQ HTI.out hb)
 replace HI := zaa.mk (zam (by repeat (first | exact HI.out | apply zah | apply zaf | apply zaj)) hb)
 clear hb
 have h20 := zaR H2.out
 have ha0 := (zad H3.out 0).trans rfl
 have ha1 := (zad H3.out 1).trans rfl
 have ha2 := (zad H3.out 2).trans rfl
 have ha8 := (zad H3.out 8).trans rfl
 have ha9 := (zad H3.out 9).trans rfl
 have ha11 := (zad H3.out 11).trans rfl
 have hi0 := zaR HI.out
 go_wp2_with (first | (go_at_call 15; refine (zbZ _ _).mono ?_; rintro e w' ⟨rfl, rfl⟩))
 refine (zaX.calls a.f11 _ _ HTM.out).mono ?_
 rintro e' w3 ⟨rfl, hd⟩
 have hb := drawn_below_readb hd
 clear hd
 clear h20 ha0 ha1 ha2 ha8 ha9 ha11 hi0
 replace H2 := zaa.mk (zam (by repeat (first | exact H2.out | apply zah | apply zaf | apply zaj)) hb)
 replace H3 := zaa.mk (zam (by repeat (first | exact H3.out | apply zah | apply zaf | apply zaj)) hb)
 replace H4 := zaa.mk (zam (by repeat (first | exact H4.out | apply zah | apply zaf | apply zaj)) hb)
 replace HB := zaa.mk (zan (by repeat (first | exact HB.out | apply zac | apply zab | apply zae | apply zax)) hb)
 replace HTI := zaa.mk (Kd.zaQ HTI.out hb)
 replace HI := zaa.mk (zam (by repeat (first | exact HI.out | apply zah | apply zaf | apply zaj)) hb)
 clear hb
 have h20 := zaR H2.out
 have ha0 := (zad H3.out 0).trans rfl
 have ha1 := (zad H3.out 1).trans rfl
 have ha2 := (zad H3.out 2).trans rfl
 have ha8 := (zad H3.out 8).trans rfl
 have ha9 := (zad H3.out 9).trans rfl
 have ha11 := (zad H3.out 11).trans rfl
 have hi0 := zaR HI.out
 have HLT : zaa (g6 < w3.heap.size) := ⟨zaP HI.out⟩
 have HLT4 : zaa (w.heap.size + 1 + 1 < w3.heap.size) := ⟨zaP H4.out⟩
 go_upto_region 6 with fail
 clear h20 ha0 ha1 ha2 ha8 ha9 ha11 hi0
 replace H2 := zaa.mk (zaf H2.out (.cells #[.slice A0 l.length c0] 24))
 replace H3 := zaa.mk (zaf H3.out (.cells #[.slice A0 l.length c0] 24))
 replace H4 := zaa.mk (zaf H4.out (.cells #[.slice A0 l.length c0] 24))
 replace HB := zaa.mk (zac HB.out (.cells #[.slice A0 l.length c0] 24))
 replace HTI := zaa.mk (Kd.zaQ HTI.out (zac (Below.refl _ _) (.cells #[.slice A0 l.length c0] 24)))
 replace HI := zaa.mk (zaf HI.out (.cells #[.slice A0 l.length c0] 24))
 clear HLT HLT4
 have h20 := zaR H2.out
 have ha0 := (zad H3.out 0).trans rfl
 have ha1 := (zad H3.out 1).trans rfl
 have ha2 := (zad H3.out 2).trans rfl
 have ha8 := (zad H3.out 8).trans rfl
 have ha9 := (zad H3.out 9).trans rfl
 have ha11 := (zad H3.out 11).trans rfl
 have hi0 := zaR HI.out
 go_wp2_with (first | (go_at_call 15; refine (zbZ _ _).mono ?_; rintro e w' ⟨rfl, rfl⟩))
 refine (zar.calls k A0 c0 l true _ (Kd.C_below HR0.out HB.out) HC0.out HMY.out).mono ?_
 rintro e' w6 ⟨rfl, hb⟩
 clear h20 ha0 ha1 ha2 ha8 ha9 ha11 hi0
 replace H2 := zaa.mk (zam (by repeat (first | exact H2.out | apply zah | apply zaf | apply zaj)) hb)
 replace H3 := zaa.mk (zam (by repeat (first | exact H3.out | apply zah | apply zaf | apply zaj)) hb)
 replace H4 := zaa.mk (zam (by repeat (first | exact H4.out | apply zah | apply zaf | apply zaj)) hb)
 replace HB := zaa.mk (zan (by repeat (first | exact HB.out | apply zac | apply zab | apply zae | apply zax)) hb)
 replace HTI := zaa.mk (Kd.zaQ HTI.out hb)
 replace HI := zaa.mk (zam (by repeat (first | exact HI.out | apply zah | apply zaf | apply zaj)) hb)
 clear hb
 have h20 := zaR H2.out
 have ha0 := (zad H3.out 0).trans rfl
 have ha1 := (zad H3.out 1).trans rfl
 have ha2 := (zad H3.out 2).trans rfl
 have ha8 := (zad H3.out 8).trans rfl
 have ha9 := (zad H3.out 9).trans rfl
 have ha11 := (zad H3.out 11).trans rfl
 have hi0 := zaR HI.out
 go_upto_region 9 with fail
 clear h20 ha0 ha1 ha2 ha8 ha9 ha11 hi0
 replace H2 := zaa.mk (zaf H2.out (.cells #[.slice none 0 0] 24))
 replace H3 := zaa.mk (zaf H3.out (.cells #[.slice none 0 0] 24))
 replace H4 := zaa.mk (zaf H4.out (.cells #[.slice none 0 0] 24))
 replace HB := zaa.mk (zac HB.out (.cells #[.slice none 0 0] 24))
 replace HTI := zaa.mk (Kd.zaQ HTI.out (zac (Below.refl _ _) (.cells #[.slice none 0 0] 24)))
 replace HI := zaa.mk (zaf HI.out (.cells #[.slice none 0 0] 24))
 have h20 := zaR H2.out
 have ha0 := (zad H3.out 0).trans rfl
 have ha1 := (zad H3.out 1).trans rfl
 have ha2 := (zad H3.out 2).trans rfl
 have ha8 := (zad H3.out 8).trans rfl
 have ha9 := (zad H3.out 9).trans rfl
 have ha11 := (zad H3.out 11).trans rfl
 have hi0 := zaR HI.out
 go_wp2_with (first | (go_at_call 15; refine (zbZ _ _).mono ?_; rintro e w' ⟨rfl, rfl⟩))
 refine (za8.calls _ 14 _ _ HWI.out).mono ?_
 rintro e' w7 ⟨rfl, hd⟩
 have hb := drawn_below_readb hd
 clear hd
 clear h20 ha0 ha1 ha2 ha8 ha9 ha11 hi0
 replace H2 := zaa.mk (zam (by repeat (first | exact H2.out | apply zah | apply zaf | apply zaj)) hb)
 replace H3 := zaa.mk (zam (by repeat (first | exact H3.out | apply zah | apply zaf | apply zaj)) hb)
 replace H4 := zaa.mk (zam (by repeat (first | exact H4.out | apply zah | apply zaf | apply zaj)) hb)
 replace HB := zaa.mk (zan (by repeat (first | exact HB.out | apply zac | apply zab | apply zae | apply zax)) hb)
 replace HTI := zaa.mk (Kd.zaQ HTI.out hb)
 replace HI := zaa.mk (zam (by repeat (first | exact HI.out | apply zah | apply zaf | apply zaj)) hb)
 clear hb
 have h20 := zaR H2.out
 have ha0 := (zad H3.out 0).trans rfl
 have ha1 := (zad H3.out 1).trans rfl
 have ha2 := (zad H3.out 2).trans rfl
 have ha8 := (zad H3.out 8).trans rfl
 have ha9 := (zad H3.out 9).trans rfl
 have ha11 := (zad H3.out 11).trans rfl
 have hi0 := zaR HI.out
 go_wp2_with (first | (go_at_call 15; refine (zbZ _ _).mono ?_; rintro e w' ⟨rfl, rfl⟩))
 refine (zar.calls k A0 c0 l true _ (Kd.C_below HR0.out HB.out) HC0.out HMY.out).mono ?_
 rintro e' w8 ⟨rfl, hb⟩
 clear h20 ha0 ha1 ha2 ha8 ha9 ha11 hi0
 replace H2 := zaa.mk (zam (by repeat (first | exact H2.out | apply zah | apply zaf | apply zaj)) hb)
 replace H3 := zaa.mk (zam (by repeat (first | exact H3.out | apply zah | apply zaf | apply zaj)) hb)
 replace H4 := zaa.mk (zam (by repeat (first | exact H4.out | apply zah | apply zaf | apply zaj)) hb)
 replace HB := zaa.mk (zan (by repeat (first | exact HB.out | apply zac | apply zab | apply zae | apply zax)) hb)
 replace HTI := zaa.mk (Kd.zaQ HTI.out hb)
 replace HI := zaa.mk (zam (by repeat (first | exact HI.out | apply zah | apply zaf | apply zaj)) hb)
 clear hb
 have h20 := zaR H2.out
 have ha0 := (zad H3.out 0).trans rfl
 have ha1 := (zad H3.out 1).trans rfl
 have ha2 := (zad H3.out 2).trans rfl
 have ha8 := (zad H3.out 8).trans rfl
 have ha9 := (zad H3.out 9).trans rfl
 have ha11 := (zad H3.out 11).trans rfl
 have hi0 := zaR HI.out
 go_wp2_with (first | (go_at_call 15; refine (zbZ _ _).mono ?_; rintro e w' ⟨rfl, rfl⟩))
 refine (zaT.calls A0 c0 l a.f1 false _ (Kd.C_below HR0.out HB.out) HC0.out HB1.out).mono ?_
 rintro e' w9 ⟨rfl, hb⟩
 clear h20 ha0 ha1 ha2 ha8 ha9 ha11 hi0
 replace H2 := zaa.mk (zam (by repeat (first | exact H2.out | apply zah | apply zaf | apply zaj)) hb)
 replace H3 := zaa.mk (zam (by repeat (first | exact H3.out | apply zah | apply zaf | apply zaj)) hb)
 replace H4 := zaa.mk (zam (by repeat (first | exact H4.out | apply zah | apply zaf | apply zaj)) hb)
 replace HB := zaa.mk (zan (by repeat (first | exact HB.out | apply zac | apply zab | apply zae | apply zax)) hb)
 replace HTI := zaa.mk (Kd.zaQ HTI.out hb)
 replace HI := zaa.mk (zam (by repeat (first | exact HI.out | apply zah | apply zaf | apply zaj)) hb)
 clear hb
 have h20 := zaR H2.out
 have ha0 := (zad H3.out 0).trans rfl
 have ha1 := (zad H3.out 1).trans rfl
 have ha2 := (zad H3.out 2).trans rfl
 have ha8 := (zad H3.out 8).trans rfl
 have ha9 := (zad H3.out 9).trans rfl
 have ha11 := (zad H3.out 11).trans rfl
 have hi0 := zaR HI.out
 go_wp2_with fail
 have HN1 : zaa (w.heap.size + 1 + 1 < w9.heap.size ∧ g6 < w9.heap.size) := ⟨zaP H4.out, zaP HI.out⟩
 have HTJ := zaa.mk (Kd.zbF (ok' := fun k => k < w9.heap.size) (Kd.S_bound HTI.out) (fun k hk => hk.2.2.1))
 refine (zby.calls k Ai ci l a.f1 a.f8 a.f9 ([] : List Int) 100 _ (Kd.zbe HTI.out).2.2 (Kd.zbe HTI.out).2.1 HFT.out).mono ?_
 rintro e' w13 ⟨vr, rfl, hR, hb⟩
 obtain ⟨Ar, cr, rfl⟩ := Kd.zbJ hR
 have HRR := zaa.mk (Kd.zbv (ok' := fun k => w9.heap.size ≤ k) (Kd.zch (Kd.zcf hR) HB.out.size) (fun k hk => hk.2.1))
 clear hR
 clear h20 ha0 ha1 ha2 ha8 ha9 ha11 hi0
 replace H2 := zaa.mk (zam (by repeat (first | exact H2.out | apply zah | apply zaf | apply zaj)) hb)
 replace H3 := zaa.mk (zam (by repeat (first | exact H3.out | apply zah | apply zaf | apply zaj)) hb)
 replace H4 := zaa.mk (zam (by repeat (first | exact H4.out | apply zah | apply zaf | apply zaj)) hb)
 replace HB := zaa.mk (zan (by repeat (first | exact HB.out | apply zac | apply zab | apply zae | apply zax)) hb)
 replace HTI := zaa.mk (Kd.zaQ HTI.out hb)
 replace HI := zaa.mk (zam (by repeat (first | exact HI.out | apply zah | apply zaf | apply zaj)) hb)
 replace HTJ := zaa.mk (Kd.zaQ HTJ.out hb)
 clear hb
 obtain ⟨N0, hN0⟩ : ∃ N0, N0 = w9.heap.size := ⟨_, rfl⟩
 rw [← hN0] at HN1 HRR HTJ
 clear hN0
 have h20 := zaR H2.out
 have ha0 := (zad H3.out 0).trans rfl
 have ha1 := (zad H3.out 1).trans rfl
 have ha2 := (zad H3.out 2).trans rfl
 have ha8 := (zad H3.out 8).trans rfl
 have ha9 := (zad H3.out 9).trans rfl
 have ha11 := (zad H3.out 11).trans rfl
 have hi0 := zaR HI.out
 go_wp2_with (first | (go_at_call 15; refine (zbZ _ _).mono ?_; rintro e w' ⟨rfl, rfl⟩))
 obtain ⟨_, hcr, hCr⟩ := Kd.zbO HRR.out
 refine (zaz.calls k Ar cr ([] : List Int) none 0 [] true _ hCr hcr (Kd.C_nil _ _) (Nat.le_refl _) HEB.out).mono ?_
 rintro e' w14 ⟨rfl, hd⟩
 have hb := drawn_below_readb hd
 clear hd hcr hCr
 replace HRR := zaa.mk (Kd.zb9 HRR.out hb)
 clear h20 ha0 ha1 ha2 ha8 ha9 ha11 hi0
 replace H2 := zaa.mk (zam (by repeat (first | exact H2.out | apply zah | apply zaf | apply zaj)) hb)
 replace H3 := zaa.mk (zam (by repeat (first | exact H3.out | apply zah | apply zaf | apply zaj)) hb)
 replace H4 := zaa.mk (zam (by repeat (first | exact H4.out | apply zah | apply zaf | apply zaj)) hb)
 replace HB := zaa.mk (zan (by repeat (first | exact HB.out | apply zac | apply zab | apply zae | apply zax)) hb)
 replace HTI := zaa.mk (Kd.zaQ HTI.out hb)
 replace HI := zaa.mk (zam (by repeat (first | exact HI.out | apply zah | apply zaf | apply zaj)) hb)
 replace HTJ := zaa.mk (Kd.zaQ HTJ.out hb)
 clear hb
 have h20 := zaR H2.out
 have ha0 := (zad H3.out 0).trans rfl
 have ha1 := (zad H3.out 1).trans rfl
 have ha2 := (zad H3.out 2).trans rfl
 have ha8 := (zad H3.out 8).trans rfl
 have ha9 := (zad H3.out 9).trans rfl
 have ha11 := (zad H3.out 11).trans rfl
 have hi0 := zaR HI.out
 go_wp2_with fail
 refine (zaE.calls k (fun k => N0 ≤ k) _ ([] : List Int) w _ HB.out HRR.out HBY.out).mono ?_
 rintro e' w15 ⟨rfl, hb, hk⟩
 clear h20 ha0 ha1 ha2 ha8 ha9 ha11 hi0
 replace H2 := zaa.mk ((hk.2 _ (zaP H2.out) (show ¬ N0 ≤ w.heap.size by have := HN1.out; omega)).trans H2.out)
 replace H3 := zaa.mk ((hk.2 _ (zaP H3.out) (show ¬ N0 ≤ w.heap.size + 1 by have := HN1.out; omega)).trans H3.out)
 replace H4 := zaa.mk ((hk.2 _ (zaP H4.out) (show ¬ N0 ≤ w.heap.size + 1 + 1 by have := HN1.out; omega)).trans H4.out)
 replace HI := zaa.mk ((hk.2 _ (zaP HI.out) (show ¬ N0 ≤ g6 by have := HN1.out; omega)).trans HI.out)
 replace HTI := zaa.mk (Kd.S_step HTJ.out (fun k hok hlt => hk.2 k hlt (show ¬ N0 ≤ k by omega)))
 replace HB := zaa.mk hb
 clear hb hk HTJ HRR
 have h20 := zaR H2.out
 have ha0 := (zad H3.out 0).trans rfl
 have ha1 := (zad H3.out 1).trans rfl
 have ha2 := (zad H3.out 2).trans rfl
 have ha8 := (zad H3.out 8).trans rfl
 have ha9 := (zad H3.out 9).trans rfl
 have ha11 := (zad H3.out 11).trans rfl
 have hi0 := zaR HI.out
 go_upto_region 41 with fail
 refine start_ (n := 9) (S := fun w' => w'.cell? ⟨w.heap.size, 0, none⟩ = some (.slice A0 l.length c0) ∧ w'.cell? ⟨g6, 0, none⟩ = some (.slice Ai l.length ci)) (ds := [7]) #[false, false, false, false, false, false, false, false, false] (by kernel_rfl) rfl rfl ⟨h20, hi0⟩ (fun hHeld => ?_)
 refine zcb (i := 1) (N := some 264) (v := ?_) (a' := ?_) #[false, true, false, false, false, false, false, false, false] rfl rfl (by kernel_rfl) (fun _ _ _ h => h) (Or.inl ⟨by rfl, ?_⟩) ?_ ?_
 rotate_left
 ·intro w'
  go_simp
  with_reducible rfl
 rotate_left
 ·simp only [Act.put, List.setIfInBounds_toArray, List.set_cons_zero, List.set_cons_succ, zbm, zbp]
  rfl
 refine zcb (i := 2) (N := some 265) (v := ?_) (a' := ?_) #[false, true, true, false, false, false, false, false, false] rfl rfl (by kernel_rfl) (fun _ _ _ h => h) (Or.inl ⟨by rfl, ?_⟩) ?_ ?_
 rotate_left
 ·intro w'
  go_simp
  with_reducible rfl
 rotate_left
 ·simp only [Act.put, List.setIfInBounds_toArray, List.set_cons_zero, List.set_cons_succ, zbm, zbp]
  rfl
 refine take_ (i := 0) (N := some 263) (v := ?_) (a' := ?_) #[true, true, true, false, false, false, false, false, false] rfl rfl (by kernel_rfl) (fun _ _ _ h => h) (Or.inl ⟨by rfl, ?_⟩) hHeld ?_ ?_
 rotate_left
 ·rintro w' ⟨s0, s1⟩
  go_simp
  with_reducible rfl
 rotate_left
 ·simp only [Act.put, List.setIfInBounds_toArray, List.set_cons_zero, List.set_cons_succ, zbm, zbp]
  rfl
 refine take_ (i := 3) (N := some 266) (v := ?_) (a' := ?_) #[true, true, true, true, false, false, false, false, false] rfl rfl (by kernel_rfl) (fun _ _ _ h => h) (Or.inl ⟨by rfl, ?_⟩) hHeld ?_ ?_
 rotate_left
 ·rintro w' ⟨s0, s1⟩
  go_simp
  with_reducible rfl
 rotate_left
 ·simp only [Act.put, List.setIfInBounds_toArray, List.set_cons_zero, List.set_cons_succ, zbm, zbp]
  rfl
 refine take_ (i := 4) (N := some 267) (v := ?_) (a' := ?_) #[true, true, true, true, true, false, false, false, false] rfl rfl (by kernel_rfl) (fun _ _ _ h => h) (Or.inl ⟨by rfl, ?_⟩) hHeld ?_ ?_
 rotate_left
 ·rintro w' ⟨s0, s1⟩
  go_simp
  with_reducible rfl
 rotate_left
 ·simp only [Act.put, List.setIfInBounds_toArray, List.set_cons_zero, List.set_cons_succ, zbm, zbp]
  rfl
 refine one_ (i := 5) (N := some 268) #[true, true, true, true, true, true, false, false, false] rfl rfl (by kernel_rfl) (by decide) (fun K hK => ?_)
 refine goes_ Tryz.func17 (by kernel_rfl) rfl #[.agg #[.slice Ai l.length ci], .agg #[.slice A0 l.length c0]] (by rfl) rfl rfl (by simp only [List.map_toArray, List.map_cons, List.map_nil]; rfl) ?_
 with_reducible refine (za6.calls k Ai ci l A0 c0 l true _ (Kd.C_below (Kd.zbe HTI.out).2.2 (by repeat (first | exact Below.refl _ _ | apply zax | apply zab | apply zae))) (Kd.zbe HTI.out).2.1 (Kd.C_below HR0.out (by repeat (first | exact HB.out | apply zax | apply zab | apply zae))) HC0.out HEQ.out).mono ?_
 rintro e' w9 ⟨rfl, hb⟩
 have HB9 := zaa.mk (zan (by repeat (first | exact HB.out | apply zax | apply zab | apply zae)) hb)
 have H49 := zaa.mk (zam (by repeat (first | exact H4.out | apply zaj | apply zah)) hb)
 have h209 := zaR (zam (by repeat (first | exact H2.out | apply zaj | apply zah)) hb)
 have hi09 := zaR (zam (by repeat (first | exact HI.out | apply zaj | apply zah)) hb)
 have h49 := zaR H49.out
 have hf9 := zai H49.out 0
 clear hb
 refine ⟨_, rfl, ?_⟩
 refine hK.out _ _ ⟨h209, hi09⟩ (fun hHeld => ?_)
 clear hK K
 refine norm_ (a' := ?_) ?_ ?_
 rotate_left
 ·show Act.put _ (some 268) _ = _
  simp only [Act.put, List.setIfInBounds_toArray, List.set_cons_zero, List.set_cons_succ, zbm, zbp]
  rfl
 refine zcb (i := 6) (N := some 269) (v := ?_) (a' := ?_) #[true, true, true, true, true, true, true, false, false] rfl rfl (by kernel_rfl) (fun _ _ _ h => h) (Or.inl ⟨by rfl, ?_⟩) ?_ ?_
 rotate_left
 ·intro w'
  go_simp
  with_reducible rfl
 rotate_left
 ·simp only [Act.put, List.setIfInBounds_toArray, List.set_cons_zero, List.set_cons_succ, zbm, zbp]
  rfl
 refine last_ (i := 7) (N := none) #[true, true, true, true, true, true, true, true, false] rfl rfl (by kernel_rfl) (by decide) (fun K hK => ?_)
 refine skip_ (w1 := ?_) (by rfl) rfl ?_ ?_
 rotate_left
 ·go_simp
  rfl
 refine hK.out _ _ ?_
 clear hK K
 refine zcb (i := 8) (N := some 5) (v := ?_) (a' := ?_) #[true, true, true, true, true, true, true, true, true] rfl rfl (by kernel_rfl) (fun _ _ _ h => h) (Or.inl ⟨by rfl, ?_⟩) ?_ ?_
 rotate_left
 ·intro w'
  go_simp
  with_reducible rfl
 rotate_left
 ·simp only [Act.put, List.setIfInBounds_toArray, List.set_cons_zero, List.set_cons_succ, zbm, zbp]
  rfl
 refine done_ (by kernel_rfl) ?_
 go_wp2
 refine bodyPost_ret (zck rfl _ _ (w.heap.size + 1 + 1) 24 #[.slice A0 l.length c0] (0, 0) _ rfl (za0 H49.out 0 _ rfl) Tryz.underlying24 rfl (by kernel_rfl)) rfl ?_
 exact ⟨⟨A0, l.length, c0, rfl⟩, HB9.out.setCell (p := ⟨w.heap.size + 1 + 1, 0, none⟩) (by show _ ≤ w.heap.size + 1 + 1; omega) _⟩
end Go.Proofs.YtjghephnjkffcaaGreat.PAll
