/- Parts of one proof, merged by a program of this repo: walks over the given program and plain facts. -/
import Derived.Test.YtjghephnjkffcaaMTreeWhole11
import Derived.Test.YtjghephnjkffcaaMTreeWhole10
import Derived.Test.YtjghephnjkffcaaMTreeWhole4
import Derived.Test.YtjghephnjkffcaaMTreeWhole9
import Derived.Test.YtjghephnjkffcaaMTreeWhole5
import Derived.Test.YtjghephnjkffcaaMTreeWhole2
import Derived.Deep.RegionHeld3
import Derived.Deep.DrawnRows
namespace Go.Proofs.Ytjghephnjkffcaa.PCk
open Go.RowKit Go.Proofs.YtjghephnjkffcaaW.PrintWords Go.Proofs.YtjghephnjkffcaaW.PrintLast Go.Proofs.YtjghephnjkffcaaW.PrintMore
attribute [local go_sem] zbV zbT zci zch zbG zbF zbU zbS
set_option linter.unusedVariables false
set_option linter.unusedSimpArgs false
def unlinkE (k : Nat) (l : List S45) (dir : Int) (s : ByteArray) (isdir : Bool) : Option (Int × Int) :=
 (zbz.f k l dir s).bind fun q => if q.2 = 0 then (zaU.f k l q.1 isdir).bind fun e => some (q.1, e) else some q
theorem removeN_len (l : List S45) (dir : Int) (s : ByteArray) (now : Int) : (za3 l dir s now).length = l.length := List.length_set
def zbh (u : List S45) (n : Int) : List S45 := u.set n.toNat { zae u n with f4 := wrap64 ((zae u n).f4 - 1) }
def unlinkD (u : List S45) (node dir : Int) (s : ByteArray) (now : Int) : Option (List S45) :=
 if 0 ≤ node ∧ node < (u.length : Int) ∧ 0 ≤ dir ∧ dir < (u.length : Int) ∧ (zae u dir).f2.length ≤ 1000000 ∧ bs (zae u dir).f2 s < (zae u dir).f2.length then some (zbh (za3 u dir s now) node) else none
def tree_Unlink.f (k : Nat) (l0_0 : List S45) (a1 : Int) (a2 : ByteArray) (a3 : Bool) (a4 : Int) : Option (List S45 × Int) :=
 (linkP k l0_0 [a1] a4).bind fun p => if p = true then (unlinkE k l0_0 a1 a2 a3).bind fun q => (if q.2 = 0 then (zaJ.f k l0_0).bind fun u => (unlinkD u q.1 a1 a2 a4).bind fun r => some (r, 0) else zaD.f k l0_0 q.2) else zaD.f k l0_0 100
set_option maxHeartbeats 8000000 in
set_option maxRecDepth 100000 in
theorem tree_Unlink.calls (k : Nat) (A0_0 : Option Addr) (c0_0 : Nat) (l0_0 : List S45) (a1 : Int) (a2 : ByteArray) (a3 : Bool) (a4 : Int) (r1 : List S45) (r2 : Int) (w : World) (hr0_0 : Kd.C k45 w A0_0 l0_0.length l0_0) (hc0_0 : l0_0.length ≤ c0_0) (h : tree_Unlink.f k l0_0 a1 a2 a3 a4 = some (r1, r2)) :
  Calls Try.prog 30 #[.agg #[.slice A0_0 l0_0.length c0_0], .int .i64 a1, .string a2, .bool a3, .int .i64 a4] w fun e w' => ∃ v0_ : Value, e = .returned (.tuple #[.agg #[v0_], .int .i64 r2]) ∧ Kd.S k45 45 w' w.heap.size (fun _ => True) v0_ r1 ∧ Below w.heap.size w w' := by
 obtain ⟨p, hP, h⟩ := Option.bind_eq_some_iff.mp h
 have HR := zaa.mk hr0_0
 have HC := zaa.mk hc0_0
 have HP := zaa.mk hP
 have HH := zaa.mk h
 have hut := Try.underlying24
 have hun := Try.underlying45
 have hsi := Try.underlying88
 have HW := zaa.mk (zb5 w A0_0 l0_0.length c0_0)
 have HW0 := zaa.mk (Below.refl (zbp w A0_0 l0_0.length c0_0).heap.size (zbp w A0_0 l0_0.length c0_0))
 clear hr0_0 hc0_0 hP h
 go_enter Try.func30, Try.ntmps30
 go_upto_region 1 with (fail)
 go_cut [23] (fun v23 wc => v23 = .bool (!p) ∧ zaa (Below (zbp w A0_0 l0_0.length c0_0).heap.size (zbp w A0_0 l0_0.length c0_0) wc))
 case first =>
  have hmm := HP.out
  clear HH HP
  unfold linkP at hmm
  obtain ⟨m, hm, hmm⟩ := Option.bind_eq_some_iff.mp hmm
  have HM := zaa.mk hm
  have HD := zaa.mk (Kd.zbL (R_of_blk (xs := [a1]) (k := .i64) (base := 0) (zbC (zbp w A0_0 l0_0.length c0_0) (.cells #[.int .i64 a1] 3)) (Nat.zero_le _) (by simp))).2.2
  have hWs : (zbp w A0_0 l0_0.length c0_0).heap.size = w.heap.size + 1 + 1 := by show ((w.alloc _).alloc _).heap.size = _; rw [World.size_alloc, World.size_alloc]
  rw [hWs] at HD
  clear hm hWs
  cases m with
  | false =>
   obtain rfl := Option.some.inj (show some false = some p from hmm)
   clear hmm
   go_wp2_with (first | (go_at_call 40; refine (zbb.calls k A0_0 c0_0 l0_0 (some ⟨w.heap.size + 1 + 1, 0, none⟩) 1 [a1] false _ (Kd.C_below HR.out (by repeat (first | exact HW.out | exact Below.refl _ _ | apply zac | apply zab | apply zad | apply zaH))) HC.out HD.out (by simp) HM.out).mono ?_; rintro e' w1 ⟨rfl, hb⟩; have HB1 := zaa.mk (zai (zac HW0.out _) hb); clear hb))
   go_meet
   case rel => exact ⟨rfl, HB1⟩
  | true =>
   obtain ⟨tm, ht, hmm⟩ := Option.bind_eq_some_iff.mp (show ((za7.f a4).bind fun tm => some tm) = some p from hmm)
   obtain rfl := Option.some.inj hmm
   have HT := zaa.mk ht
   clear ht hmm
   go_wp2_with (first | (go_at_call 40; refine (zbb.calls k A0_0 c0_0 l0_0 (some ⟨w.heap.size + 1 + 1, 0, none⟩) 1 [a1] true _ (Kd.C_below HR.out (by repeat (first | exact HW.out | exact Below.refl _ _ | apply zac | apply zab | apply zad | apply zaH))) HC.out HD.out (by simp) HM.out).mono ?_; rintro e' w1 ⟨rfl, hb⟩; have HB1 := zaa.mk (zai (zac HW0.out _) hb); clear hb) | (go_at_call 45; refine (za7.calls a4 _ _ HT.out).mono ?_; rintro e' w2 ⟨rfl, ⟨nd, rfl⟩⟩))
   go_meet
   case rel => exact ⟨rfl, ⟨by repeat (first | exact HB1.out | exact Below.refl _ _ | apply zac | apply zab | apply zad | apply zaH)⟩⟩
 case rest =>
  clear HP HW0
  obtain ⟨rfl, HB⟩ := hcut
  have hct := zaZ HB.out
  cases p with
  | false =>
   have hbad : zaD.f k l0_0 100 = some (r1, r2) := HH.out
   have HBAD := zaa.mk hbad
   clear hbad
   go_wp2_with (first | (go_at_call 41; refine (zaD.calls k A0_0 c0_0 l0_0 100 r1 r2 _ (Kd.C_below HR.out (zai HW.out HB.out)) HC.out HBAD.out).mono ?_; rintro e' w1 ⟨v, rfl, hS, hb⟩; obtain ⟨vA, vc, rfl⟩ := Kd.zbc hS; have HS1 := zaa.mk hS; have HB1 := zaa.mk (zai HB.out hb); have HK := zaa.mk (zbe HB1.out); have hct1 := (zah HK.out.2 0).trans rfl; have hf1 := zaf HK.out.2 0; clear hS hb))
   refine bodyPost_ret (za6 rfl _ _ (w.heap.size + 1) 24 #[.slice vA r1.length vc] (0, 0) _ rfl (zaF HK.out.2 0 _ rfl) Try.underlying24 rfl (by kernel_rfl)) rfl ?_
   exact ⟨_, rfl, Kd.zbK (Kd.za8 HS1.out (zai HW.out HB.out).size) HK.out.2 (by decide) 0 _, (zai HW.out HB1.out).setCell (p := ⟨w.heap.size + 1, 0, none⟩) (by show _ ≤ _ + 1; omega) _⟩
  | true =>
   obtain ⟨⟨nn, e⟩, hE, hq⟩ := Option.bind_eq_some_iff.mp (show ((unlinkE k l0_0 a1 a2 a3).bind fun q => (if q.2 = 0 then (zaJ.f k l0_0).bind fun u => (unlinkD u q.1 a1 a2 a4).bind fun r => some (r, 0) else zaD.f k l0_0 q.2)) = some (r1, r2) from HH.out)
   have HQ := zaa.mk hq
   obtain ⟨⟨n1, e0⟩, hd, hE⟩ := Option.bind_eq_some_iff.mp hE
   have HE := zaa.mk hE
   have HD := zaa.mk hd
   have HNN : zaa (n1 = nn) := ⟨by
    have hE2 := hE
    split at hE2
    ·obtain ⟨x, _, hx⟩ := Option.bind_eq_some_iff.mp hE2
     injection (Option.some.inj hx)
    ·injection (Option.some.inj hE2)⟩
   obtain rfl := HNN.out
   clear HH hq hE hd HNN
   go_upto_if 36 with (first | (go_at_call 53; refine (zbz.calls k A0_0 c0_0 l0_0 a1 a2 n1 e0 _ (Kd.C_below HR.out (zai HW.out HB.out)) HC.out HD.out).mono ?_; rintro e' w1 ⟨rfl, hb⟩; have HB1 := zaa.mk (zai HB.out hb); have hct1 := zaZ HB1.out; clear hb))
   clear HB hct
   go_cut [13] (fun v13 wc => v13 = .int .i64 e ∧ zaa (Below (zbp w A0_0 l0_0.length c0_0).heap.size (zbp w A0_0 l0_0.length c0_0) wc))
   case first =>
    clear HQ
    by_cases y1 : e0 = 0
    ·have Y1 : (e0 == 0) = true := beq_iff_eq.mpr y1
     have hE := HE.out
     rw [if_pos y1] at hE
     obtain ⟨e1, he1, he2⟩ := Option.bind_eq_some_iff.mp hE
     injection (Option.some.inj he2) with _ he3
     subst he3
     have HE1 := zaa.mk he1
     clear he1 he2 HE hE y1
     go_wp2_with (first | (go_at_call 57; refine (zaU.calls k A0_0 c0_0 l0_0 n1 a3 _ _ (Kd.C_below HR.out (zai HW.out HB1.out)) HC.out HE1.out).mono ?_; rintro e' w2 ⟨rfl, hb⟩; have HB2 := zaa.mk (zai HB1.out hb); clear hb))
     go_meet
     case rel => exact ⟨rfl, HB2⟩
    ·have Y1 : (e0 == 0) = false := beq_eq_false_iff_ne.mpr y1
     have hE := HE.out
     rw [if_neg y1] at hE
     injection (Option.some.inj hE) with _ he3
     subst he3
     clear HE hE y1
     go_wp2
     go_meet
     case rel => exact ⟨rfl, HB1⟩
   case rest =>
    clear HE HD hct1 HB1
    obtain ⟨rfl, HB⟩ := hcut
    have hct := zaZ HB.out
    by_cases z1 : e = 0
    ·have Z1 : (e != 0) = false := by simpa using z1
     obtain rfl := z1
     have hq := HQ.out
     rw [if_pos rfl] at hq
     obtain ⟨u, hu, hq⟩ := Option.bind_eq_some_iff.mp hq
     obtain ⟨r, hr, hq⟩ := Option.bind_eq_some_iff.mp hq
     injection (Option.some.inj hq) with hq1 hq2
     subst hq1; subst hq2
     unfold unlinkD at hr
     split at hr
     ·rename_i hg1
      have HADD := zaa.mk (Option.some.inj hr)
      have HU := zaa.mk hu
      have HG1 := zaa.mk hg1
      have HSZ : zaa (w.heap.size + 2 ≤ wc.heap.size) := ⟨by have := HB.out.size; have h2 : (zbp w A0_0 l0_0.length c0_0).heap.size = w.heap.size + 1 + 1 := (by show ((w.alloc _).alloc _).heap.size = _; rw [World.size_alloc, World.size_alloc]); omega⟩
      have p0 := eq_true hg1.1
      have p1 := eq_true hg1.2.1
      have hpos : 0 < u.length := by omega
      clear HQ hq hu hr hg1
      go_wp2_with (first | (go_at_call 42; refine (zaJ.calls k A0_0 c0_0 l0_0 u _ (Kd.C_below HR.out (zai HW.out HB.out)) HC.out HU.out).mono ?_; rintro e' w1 ⟨v, rfl, hS, hb⟩; obtain ⟨g, vc, rfl, hgN, hgl, _⟩ := Kd.S_form hS hpos; have HB1 := zai HB.out hb; have hK := zbe HB1; have hX := boxed hK.1 hK.2 (zai HW.out HB1) (Kd.za8 (Kd.zbw (ok' := (fun k => k ≠ w.heap.size ∧ k ≠ w.heap.size + 1)) (Kd.S_bound hS) (fun k hk => ⟨by have := HSZ.out; have := hk.2.1; omega, by have := HSZ.out; have := hk.2.1; omega⟩)) (zai HW.out HB.out).size); have hct1 := zaZ HB1; have hf1 := zaf hK.1 0; have HK6 := zaa.mk hX.1; have HK12 := zaa.mk hX.2.1; have HS1 := zaa.mk hX.2.2.1; have HB2 := zaa.mk hX.2.2.2; have hct2 := (zah HK6.out 0).trans rfl; have hf2 := zaf HK6.out 0; clear hS hb hX HB1 hK) | (go_at_call 55; have hadd := tree_remove.calls _ w.heap.size g vc (fun k => k ≠ w.heap.size ∧ k ≠ w.heap.size + 1) u a1 a2 a4 HS1.out HG1.out.2.2.1 HG1.out.2.2.2.1 HB2.out.size (by have := HG1.out.2.2.2.2.1; omega) HG1.out.2.2.2.2.2; refine hadd.mono ?_; rintro e' w5 ⟨rfl, hS5, hb5, ho5⟩; have hlen := removeN_len u a1 a2 a4; rw [← hlen] at hS5; obtain ⟨hl4, hfl, hokg, hbg, _, hnew⟩ := links_anew hS5 n1 HG1.out.1 (by rw [hlen]; exact HG1.out.2.1); rw [hlen] at hnew; have HNEW := zaa.mk hnew; have HK6c := zaa.mk ((ho5 w.heap.size (zaV HK6.out) (by simp)).trans HK6.out); have HK12c := zaa.mk ((ho5 (w.heap.size + 1) (zaV HK12.out) (by simp)).trans HK12.out); have HB5 := zaa.mk (HB2.out.trans hb5); have hct5 := (zah HK6c.out 0).trans rfl; have HGB := zaa.mk hbg; have HK6d := zaa.mk (fun u' : Value => zaC HK6c.out (p := ⟨g, n1.toNat * 6 + 4, none⟩) (fun e => hokg.1 e.symm) u'); have HK12d := zaa.mk (fun u' : Value => zaC HK12c.out (p := ⟨g, n1.toNat * 6 + 4, none⟩) (fun e => hokg.2 e.symm) u'); have hct6 := fun u' => (zah (HK6d.out u') 0).trans rfl; have hct12 := fun u' => (zah (HK12d.out u') 0).trans rfl; have hf12 := fun u' => zaf (HK12d.out u') 0; clear hadd hS5 hb5 ho5 hnew hlen hokg hbg))
      refine bodyPost_ret (za6 rfl _ _ (w.heap.size + 1) 24 #[.slice (some ⟨g, 0, none⟩) u.length vc] (0, 0) _ rfl (zaF (HK12d.out _) 0 _ rfl) Try.underlying24 rfl (by kernel_rfl)) rfl ?_
      refine ⟨_, rfl, ?_, (HB5.out.setCell HGB.out _).setCell (p := ⟨w.heap.size + 1, 0, none⟩) (by show _ ≤ _ + 1; omega) _⟩
      rw [← HADD.out]
      exact Kd.zbw (Kd.zbK (HNEW.out _) (HK12d.out _) (by decide) 0 _) (fun _ _ => trivial)
     ·cases hr
    ·have Z1 : (e != 0) = true := by simpa using z1
     have hbad := HQ.out
     replace hbad : zaD.f k l0_0 e = some (r1, r2) := by rw [if_neg (show ¬ (n1, e).2 = 0 from z1)] at hbad; exact hbad
     have HBAD := zaa.mk hbad
     clear hbad
     clear z1
     go_wp2_with (first | (go_at_call 41; refine (zaD.calls k A0_0 c0_0 l0_0 e r1 r2 _ (Kd.C_below HR.out (zai HW.out HB.out)) HC.out HBAD.out).mono ?_; rintro e' w1 ⟨v, rfl, hS, hb⟩; obtain ⟨vA, vc, rfl⟩ := Kd.zbc hS; have HS1 := zaa.mk hS; have HB1 := zaa.mk (zai HB.out hb); have HK := zaa.mk (zbe HB1.out); have hct1 := (zah HK.out.2 0).trans rfl; have hf1 := zaf HK.out.2 0; clear hS hb))
     refine bodyPost_ret (za6 rfl _ _ (w.heap.size + 1) 24 #[.slice vA r1.length vc] (0, 0) _ rfl (zaF HK.out.2 0 _ rfl) Try.underlying24 rfl (by kernel_rfl)) rfl ?_
     exact ⟨_, rfl, Kd.zbK (Kd.za8 HS1.out (zai HW.out HB.out).size) HK.out.2 (by decide) 0 _, (zai HW.out HB1.out).setCell (p := ⟨w.heap.size + 1, 0, none⟩) (by show _ ≤ _ + 1; omega) _⟩
end Go.Proofs.Ytjghephnjkffcaa.PCk
