/- Parts of one proof, merged by a program of this repo: walks over the given program and plain facts. -/
import Derived.Test.YtjghephnjkffcaaMTreeWhole10
import Derived.Test.YtjghephnjkffcaaMTreeWhole4
import Derived.Test.YtjghephnjkffcaaMTreeWhole9
import Derived.Test.YtjghephnjkffcaaMTreeWhole5
import Derived.Test.YtjghephnjkffcaaMTreeWhole2
import Derived.Deep.RegionHeld3
import Derived.Deep.DrawnRows
import Derived.Deep.CutBlock
namespace Go.Proofs.Ytjghephnjkffcaa.PCk
open Go.RowKit Go.Proofs.YtjghephnjkffcaaW.PrintWords Go.Proofs.YtjghephnjkffcaaW.PrintLast Go.Proofs.YtjghephnjkffcaaW.PrintMore
attribute [local go_sem] zbV zbT zci zch zbG zbF zbU zbS
set_option linter.unusedVariables false
set_option linter.unusedSimpArgs false
def writeE (l : List S45) (node at_ : Int) (b : List Int) : Option Int :=
 (tree_file.f l node).bind fun e => some (if e = 0 then (if at_ < 0 then 28 else (if 16384 < at_ then 22 else if 16384 - at_ < (b.length : Int) then 22 else 0)) else e)
def wroteB (old : List Int) (t : Nat) (b : List Int) : List Int := splice (sizedL old (max old.length (t + b.length))) t b
def writeD (u : List S45) (node at_ : Int) (b : List Int) (now : Int) : Option (List S45) :=
 if 0 ≤ node ∧ node < (u.length : Int) ∧ 0 ≤ at_ ∧ at_ ≤ 16384 ∧ b.length ≤ 16384 ∧ (zae u node).f1.length ≤ 1000000 then some (if b.length = 0 then u else u.set node.toNat { zae u node with f1 := wroteB (zae u node).f1 at_.toNat b, f5 := now }) else none
def tree_Write.f (k : Nat) (l0_0 : List S45) (a1 : Int) (a2 : Int) (l3 : List Int) (a4 : Int) : Option (List S45 × Int) :=
 (linkP k l0_0 [a1] a4).bind fun p => if p = true then (writeE l0_0 a1 a2 l3).bind fun e => (if e = 0 then (zaJ.f k l0_0).bind fun u => (writeD u a1 a2 l3 a4).bind fun r => some (r, 0) else zaD.f k l0_0 e) else zaD.f k l0_0 100
theorem data_twice {w2 : World} {base g c : Nat} {ok : Nat → Prop} {l : List S45} (hS : Kd.S k45 45 w2 base ok (.slice (some ⟨g, 0, none⟩) l.length c) l) (x : Int) (h0 : 0 ≤ x) (h1 : x < (l.length : Int)) (hbase : base ≤ w2.heap.size) (hfresh : ∀ k, w2.heap.size ≤ k → ok k)
  (w3 : World) (v1' : Value) (hv1 : v1'.oneCell' = true) (hb : Below w2.heap.size w2 w3) (w5 : World) (hk5 : Kept (w3.setCell ⟨g, x.toNat * 6 + 1, none⟩ v1') w5 (fun k => w2.heap.size ≤ k)) (bs' : List Int) (hR5 : (Kd.int .u8).R 5 w5 w2.heap.size (fun _ => True) v1' bs') :
  (∃ u, w5.cell? ⟨g, x.toNat * 6 + 5, none⟩ = some u) ∧ (∀ j, w5.frozen? ⟨g, j, none⟩ = false) ∧ ∀ now : Int, Kd.S k45 45 (w5.setCell ⟨g, x.toNat * 6 + 5, none⟩ (.int .i64 now)) base ok (.slice (some ⟨g, 0, none⟩) l.length c) (l.set x.toNat { zae l x with f1 := bs', f5 := now }) := by
 obtain ⟨oki, cs, hcl, hM, hcc, hoki, hH⟩ := Kd.S_lend hS z45 x h0 h1
 obtain ⟨g', cap', e', hbg, hgl, cells, hgb⟩ := Kd.S_form hS (by omega)
 injection e' with e1 _ _
 injection e1 with e1
 injection e1 with e1
 subst e1
 obtain ⟨v1, v2, rfl, hR1, hR2⟩ := k45_openM hM
 have hgb3 := zaq hgb hb
 have hH3 := Kd.H_below (Kd.H_widen hH) hb
 have hR23 : k66.R 66 w3 base (fun k => oki k ∧ k < w2.heap.size) v2 (zae l x).f2 := Kd.zcz (Kd.zby (Kd.zcy hR2) (fun k hk => ⟨hk.1, hk.2.2.1⟩)) hb
 have hseg1 := (Kd.H_seg hH3 h0 h1 (seg := [v1']) (j := 1) (by show 1 + 1 ≤ 6; omega) (fun q hq => by rw [List.mem_singleton.1 hq]; exact hv1)).1
 have hb1 := blk_set hgb3 (x.toNat * 6 + 1) v1'
 have hR24 := Kd.R_set hR23 hgb3 (by decide) (x.toNat * 6 + 1) v1'
 have hb5 := (hk5.2 g (zaV hb1) (by omega)).trans hb1
 have hR25 : k66.R 66 w5 base (fun k => oki k ∧ k < w2.heap.size) v2 (zae l x).f2 := Kd.R_kept hR24 hk5 (fun k hk => by omega)
 have hH5 := Kd.H_step hseg1 (fun k hok hnot hlt => hk5.2 k hlt (fun hge => hnot (.inr ⟨hok, hge⟩)))
 have hcell5 : ∃ u, w5.cell? ⟨g, x.toNat * 6 + 5, none⟩ = some u := by
  obtain ⟨rows, _, _, _, _, hc5, _⟩ := Kd.H_raw hH5 h0 h1
  exact ⟨_, hc5 5 _ rfl⟩
 have hR15 : (Kd.int .u8).R 5 w5 base (fun k => oki k ∨ (ok k ∧ w2.heap.size ≤ k)) v1' bs' := Kd.R_lower (Kd.zby (Kd.zcy hR5) (fun k hk => .inr ⟨hfresh k hk.2.1, hk.2.1⟩)) hbase
 refine ⟨hcell5, fun j => zaf hb5 j, fun now => ?_⟩
 have hseg2 := (Kd.H_seg hH5 h0 h1 (seg := [.int .i64 now]) (j := 5) (by show 5 + 1 ≤ 6; omega) (fun q hq => by rw [List.mem_singleton.1 hq]; rfl)).1
 refine Kd.H_back hseg2 (x' := { zae l x with f1 := bs', f5 := now }) (okp := fun k => oki k ∨ (ok k ∧ w2.heap.size ≤ k)) ?_ (fun _ hk => hk)
 exact k45_mkM _ _ _ { zae l x with f1 := bs', f5 := now } (Kd.R_set hR15 hb5 (by decide) _ _) (Kd.R_set (Kd.zby hR25 (fun k hk => .inl hk.1)) hb5 (by decide) _ _)
set_option maxHeartbeats 8000000 in
set_option maxRecDepth 100000 in
theorem tree_Write.calls (k : Nat) (A0_0 : Option Addr) (c0_0 : Nat) (l0_0 : List S45) (a1 : Int) (a2 : Int) (A3 : Option Addr) (c3 : Nat) (l3 : List Int) (a4 : Int) (r1 : List S45) (r2 : Int) (w : World) (hr0_0 : Kd.C k45 w A0_0 l0_0.length l0_0) (hc0_0 : l0_0.length ≤ c0_0) (hr3 : Kd.C (Kd.int .u8) w A3 l3.length l3) (hc3 : l3.length ≤ c3) (h : tree_Write.f k l0_0 a1 a2 l3 a4 = some (r1, r2)) :
  Calls Try.prog 22 #[.agg #[.slice A0_0 l0_0.length c0_0], .int .i64 a1, .int .i64 a2, .slice A3 l3.length c3, .int .i64 a4] w fun e w' => ∃ v0_ : Value, e = .returned (.tuple #[.agg #[v0_], .int .i64 r2]) ∧ Kd.S k45 45 w' w.heap.size (fun _ => True) v0_ r1 ∧ Below w.heap.size w w' := by
 obtain ⟨p, hP, h⟩ := Option.bind_eq_some_iff.mp h
 have HR := zaa.mk hr0_0
 have HC := zaa.mk hc0_0
 have HR3 := zaa.mk hr3
 have HC3 := zaa.mk hc3
 have hb3 := Try.underlying36
 have HP := zaa.mk hP
 have HH := zaa.mk h
 have hut := Try.underlying24
 have hun := Try.underlying45
 have hsi := Try.underlying88
 have HW := zaa.mk (zb5 w A0_0 l0_0.length c0_0)
 have HW0 := zaa.mk (Below.refl (zbp w A0_0 l0_0.length c0_0).heap.size (zbp w A0_0 l0_0.length c0_0))
 clear hr0_0 hc0_0 hr3 hc3 hP h
 go_enter Try.func22, Try.ntmps22
 go_upto_region 1 with (fail)
 go_cut [23] (fun v23 wc => v23 = .bool (!p) ∧ zaa (Below (zbp w A0_0 l0_0.length c0_0).heap.size (zbp w A0_0 l0_0.length c0_0) wc))
 case first =>
  have hmm := HP.out
  clear HH HP
  unfold linkP at hmm
  obtain ⟨m, hm, hmm⟩ := Option.bind_eq_some_iff.mp hmm
  have HM := zaa.mk hm
  have HD := zaa.mk (Kd.zbL (R_of_blk (xs := [a1]) (k := .i64) (base := 0) (zbC (zbp w A0_0 l0_0.length c0_0) (.cells #[.int .i64 a1] 3)) (Nat.zero_le _) (by simp))).2.2
  have hWs : (zbp w A0_0 l0_0.length c0_0).heap.size = w.heap.size + 1 + 1 := by show ((w.alloc _).alloc _).heap.size = _; rw [World.size_alloc, World.size_alloc]
  rw [hWs] at HD
  clear hm hWs
  cases m with
  | false =>
   obtain rfl := Option.some.inj (show some false = some p from hmm)
   clear hmm
   go_wp2_with (first | (go_at_call 40; refine (zbb.calls k A0_0 c0_0 l0_0 (some ⟨w.heap.size + 1 + 1, 0, none⟩) 1 [a1] false _ (Kd.C_below HR.out (by repeat (first | exact HW.out | exact Below.refl _ _ | apply zac | apply zab | apply zad | apply zaH))) HC.out HD.out (by simp) HM.out).mono ?_; rintro e' w1 ⟨rfl, hb⟩; have HB1 := zaa.mk (zai (zac HW0.out _) hb); clear hb))
   go_meet
   case rel => exact ⟨rfl, HB1⟩
  | true =>
   obtain ⟨tm, ht, hmm⟩ := Option.bind_eq_some_iff.mp (show ((za7.f a4).bind fun tm => some tm) = some p from hmm)
   obtain rfl := Option.some.inj hmm
   have HT := zaa.mk ht
   clear ht hmm
   go_wp2_with (first | (go_at_call 40; refine (zbb.calls k A0_0 c0_0 l0_0 (some ⟨w.heap.size + 1 + 1, 0, none⟩) 1 [a1] true _ (Kd.C_below HR.out (by repeat (first | exact HW.out | exact Below.refl _ _ | apply zac | apply zab | apply zad | apply zaH))) HC.out HD.out (by simp) HM.out).mono ?_; rintro e' w1 ⟨rfl, hb⟩; have HB1 := zaa.mk (zai (zac HW0.out _) hb); clear hb) | (go_at_call 45; refine (za7.calls a4 _ _ HT.out).mono ?_; rintro e' w2 ⟨rfl, ⟨nd, rfl⟩⟩))
   go_meet
   case rel => exact ⟨rfl, ⟨by repeat (first | exact HB1.out | exact Below.refl _ _ | apply zac | apply zab | apply zad | apply zaH)⟩⟩
 case rest =>
  clear HP HW0
  obtain ⟨rfl, HB⟩ := hcut
  have hct := zaZ HB.out
  cases p with
  | false =>
   have hbad : zaD.f k l0_0 100 = some (r1, r2) := HH.out
   have HBAD := zaa.mk hbad
   clear hbad
   go_wp2_with (first | (go_at_call 41; refine (zaD.calls k A0_0 c0_0 l0_0 100 r1 r2 _ (Kd.C_below HR.out (zai HW.out HB.out)) HC.out HBAD.out).mono ?_; rintro e' w1 ⟨v, rfl, hS, hb⟩; obtain ⟨vA, vc, rfl⟩ := Kd.zbc hS; have HS1 := zaa.mk hS; have HB1 := zaa.mk (zai HB.out hb); have HK := zaa.mk (zbe HB1.out); have hct1 := (zah HK.out.2 0).trans rfl; have hf1 := zaf HK.out.2 0; clear hS hb))
   refine bodyPost_ret (za6 rfl _ _ (w.heap.size + 1) 24 #[.slice vA r1.length vc] (0, 0) _ rfl (zaF HK.out.2 0 _ rfl) Try.underlying24 rfl (by kernel_rfl)) rfl ?_
   exact ⟨_, rfl, Kd.zbK (Kd.za8 HS1.out (zai HW.out HB.out).size) HK.out.2 (by decide) 0 _, (zai HW.out HB1.out).setCell (p := ⟨w.heap.size + 1, 0, none⟩) (by show _ ≤ _ + 1; omega) _⟩
  | true =>
   obtain ⟨e, hE, hq⟩ := Option.bind_eq_some_iff.mp (show ((writeE l0_0 a1 a2 l3).bind fun e => (if e = 0 then (zaJ.f k l0_0).bind fun u => (writeD u a1 a2 l3 a4).bind fun r => some (r, 0) else zaD.f k l0_0 e)) = some (r1, r2) from HH.out)
   have HQ := zaa.mk hq
   obtain ⟨e0, hd, hE⟩ := Option.bind_eq_some_iff.mp hE
   have HE := zaa.mk (Option.some.inj hE)
   have HD := zaa.mk hd
   clear HH hq hE hd
   go_upto_block 0 with (first | (go_at_call 46; refine (tree_file.calls A0_0 c0_0 l0_0 a1 e0 _ (Kd.C_below HR.out (zai HW.out HB.out)) HC.out HD.out).mono ?_; rintro e' w1 ⟨rfl, hb⟩; have HB1 := zaa.mk (zai HB.out hb); have hct1 := zaZ HB1.out; clear hb))
   clear HB hct
   go_cut [12] (fun v12 wc => v12 = .int .i64 e ∧ zaa (Below (zbp w A0_0 l0_0.length c0_0).heap.size (zbp w A0_0 l0_0.length c0_0) wc))
   case first =>
    clear HQ
    have hE := HE.out
    by_cases y1 : e0 = 0
    ·have Y1 : (e0 != 0) = false := by simpa using y1
     rw [if_pos y1] at hE
     clear HE
     by_cases y2 : a2 < 0
     ·have Y2 : decide (a2 < 0) = true := decide_eq_true y2
      rw [if_pos y2] at hE
      subst hE
      clear y1 y2
      go_wp2
      go_meet
      case rel => exact ⟨rfl, HB1⟩
     ·have Y2 : decide (a2 < 0) = false := decide_eq_false y2
      rw [if_neg y2] at hE
      by_cases y3 : 16384 < a2
      ·have Y3 : decide (16384 < a2) = true := decide_eq_true y3
       rw [if_pos y3] at hE
       subst hE
       clear y1 y2 y3
       go_wp2
       go_meet
       case rel => exact ⟨rfl, HB1⟩
      ·have Y3 : decide (16384 < a2) = false := decide_eq_false y3
       rw [if_neg y3] at hE
       have hq0 : 0 ≤ a2 := by omega
       have hq1 : a2 ≤ 16384 := by omega
       have hm3 := HR3.out.2.1
       by_cases y4 : 16384 - a2 < (l3.length : Int)
       ·have Y5 : decide (16384 - a2 < (l3.length : Int)) = true := decide_eq_true y4
        rw [if_pos y4] at hE
        subst hE
        clear y1 y2 y3 y4
        go_wp2
        go_meet
        case rel => exact ⟨rfl, HB1⟩
       ·have Y5 : decide (16384 - a2 < (l3.length : Int)) = false := decide_eq_false y4
        rw [if_neg y4] at hE
        subst hE
        have Y4 := zaa.mk y1
        clear y1 y2 y3 y4
        go_wp2
        go_meet
        case rel => exact ⟨by rw [Y4.out], HB1⟩
    ·have Y1 : (e0 != 0) = true := by simpa using y1
     rw [if_neg y1] at hE
     subst hE
     clear HE y1
     go_wp2
     go_meet
     case rel => exact ⟨rfl, HB1⟩
   case rest =>
    clear HE HD hct1 HB1
    obtain ⟨rfl, HB⟩ := hcut
    have hct := zaZ HB.out
    by_cases z1 : e = 0
    ·have Z1 : (e != 0) = false := by simpa using z1
     obtain rfl := z1
     have hq := HQ.out
     rw [if_pos rfl] at hq
     obtain ⟨u, hu, hq⟩ := Option.bind_eq_some_iff.mp hq
     obtain ⟨r, hr, hq⟩ := Option.bind_eq_some_iff.mp hq
     injection (Option.some.inj hq) with hq1 hq2
     subst hq1; subst hq2
     unfold writeD at hr
     split at hr
     ·rename_i hg1
      have HADD := zaa.mk (Option.some.inj hr)
      have HU := zaa.mk hu
      have HG1 := zaa.mk hg1
      have HSZ : zaa (w.heap.size + 2 ≤ wc.heap.size) := ⟨by have := HB.out.size; have h2 : (zbp w A0_0 l0_0.length c0_0).heap.size = w.heap.size + 1 + 1 := (by show ((w.alloc _).alloc _).heap.size = _; rw [World.size_alloc, World.size_alloc]); omega⟩
      have p0 := eq_true hg1.1
      have p1 := eq_true hg1.2.1
      have hpos : 0 < u.length := by omega
      clear HQ hq hu hr hg1
      go_upto_region 12 with (first | (go_at_call 42; refine (zaJ.calls k A0_0 c0_0 l0_0 u _ (Kd.C_below HR.out (zai HW.out HB.out)) HC.out HU.out).mono ?_; rintro e' w1 ⟨v, rfl, hS, hb⟩; obtain ⟨g, vc, rfl, hgN, hgl, _⟩ := Kd.S_form hS hpos; have HB1 := zai HB.out hb; have hK := zbe HB1; have hX := boxed hK.1 hK.2 (zai HW.out HB1) (Kd.za8 (Kd.zbw (ok' := (fun k => k ≠ w.heap.size ∧ k ≠ w.heap.size + 1)) (Kd.S_bound hS) (fun k hk => ⟨by have := HSZ.out; have := hk.2.1; omega, by have := HSZ.out; have := hk.2.1; omega⟩)) (zai HW.out HB.out).size); have hct1 := zaZ HB1; have hf1 := zaf hK.1 0; have HK6 := zaa.mk hX.1; have HK12 := zaa.mk hX.2.1; have HS1 := zaa.mk hX.2.2.1; have HB2 := zaa.mk hX.2.2.2; have hct2 := (zah HK6.out 0).trans rfl; have hf2 := zaf HK6.out 0; clear hS hb hX HB1 hK))
      have hm3 := HR3.out.2.1
      by_cases x3 : l3.length = 0
      ·have X3 : decide (0 < l3.length) = false := decide_eq_false (by omega)
       have X3b : decide ((0 : Int) < (l3.length : Int)) = false := decide_eq_false (by omega)
       rw [if_pos x3] at HADD
       have hct12 := (zah HK12.out 0).trans rfl
       have hf12 := zaf HK12.out 0
       clear x3
       go_wp2
       refine bodyPost_ret (za6 rfl _ _ (w.heap.size + 1) 24 #[.slice (some ⟨g, 0, none⟩) u.length vc] (0, 0) _ rfl (zaF HK12.out 0 _ rfl) Try.underlying24 rfl (by kernel_rfl)) rfl ?_
       refine ⟨_, rfl, ?_, HB2.out.setCell (p := ⟨w.heap.size + 1, 0, none⟩) (by show _ ≤ _ + 1; omega) _⟩
       rw [← HADD.out]
       exact Kd.zbw (Kd.zbK HS1.out HK12.out (by decide) 0 _) (fun _ _ => trivial)
      ·have X3 : decide (0 < l3.length) = true := decide_eq_true (by omega)
       have X3b : decide ((0 : Int) < (l3.length : Int)) = true := decide_eq_true (by omega)
       rw [if_neg x3] at HADD
       have HX3 := zaa.mk (show 0 < l3.length by omega)
       obtain ⟨t, rfl⟩ : ∃ t : Nat, a2 = (t : Int) := ⟨a2.toNat, by have := HG1.out.2.2.1; omega⟩
       rw [Int.toNat_natCast] at HADD
       clear x3
       go_upto_region 14 with (fail)
       have hbs := HB2.out.size
       obtain ⟨dA, dm, hdc, hdm, hdC, hokg, hgl2, hbg, hrub⟩ := data_anew HS1.out a1 HG1.out.1 HG1.out.2.1 hbs (fun q hq => ⟨by have := zaV HK12.out; omega, by have := zaV HK12.out; omega⟩)
       have hf1m : (zae u a1).f1.length ≤ 1000000 := HG1.out.2.2.2.2.2
       have ht1 : t ≤ 16384 := by have := HG1.out.2.2.2.1; omega
       have hl1 : l3.length ≤ 16384 := HG1.out.2.2.2.2.1
       obtain ⟨M, hM⟩ : ∃ M : Nat, M = max (zae u a1).f1.length (t + l3.length) := ⟨_, rfl⟩
       have hwr : IntKind.i64.wrap ((t : Int) + (l3.length : Int)) = (t : Int) + (l3.length : Int) := by rw [zbq]; unfold wrap64; omega
       have hMx : (((zae u a1).f1.length : Int) < IntKind.i64.wrap ((t : Int) + (l3.length : Int)) ∧ IntKind.i64.wrap ((t : Int) + (l3.length : Int)) = (M : Int)) ∨ (¬ ((zae u a1).f1.length : Int) < IntKind.i64.wrap ((t : Int) + (l3.length : Int)) ∧ ((zae u a1).f1.length : Int) = (M : Int)) := by
        rw [hwr, hM, Nat.max_def]; split <;> omega
       have hM1 : (zae u a1).f1.length ≤ M := by rw [hM]; exact Nat.le_max_left _ _
       have hM2 : t + l3.length ≤ M := by rw [hM]; exact Nat.le_max_right _ _
       have hM3 : M ≤ 1100000 := by rw [hM, Nat.max_def]; split <;> omega
       have HM := zaa.mk hM
       have hsz : zbQ.f (zae u a1).f1 (M : Int) = some (sizedL (zae u a1).f1 M) := by
        unfold zbQ.f
        rw [if_pos (by omega), if_pos (by omega), Int.toNat_natCast]
       have HZ := zaa.mk hsz
       obtain ⟨cells, hgb⟩ : ∃ cells : Array Value, (w1.setCell ⟨w.heap.size, 0, none⟩ (.slice (some ⟨g, 0, none⟩) u.length vc)).heap[g]? = some (.cells cells 45 (0, 0)) := by
        obtain ⟨g', cap', e', _, _, cells, hgb⟩ := Kd.S_form HS1.out (by omega)
        injection e' with e1 _ _
        injection e1 with e1
        injection e1 with e1
        subst e1
        exact ⟨cells, hgb⟩
       have HGBK := zaa.mk hgb
       have HDA := zaa.mk (show _ ∧ _ ∧ _ ∧ _ from ⟨hdm, hdC, hokg, hbg⟩)
       have HGL := zaa.mk hgl2
       have hct2 := (zah HK6.out 0).trans rfl
       clear hdm hdC hokg hgl2 hbg hbs hM hsz hgb hwr hrub
       rcases hMx with ⟨x5, hMx⟩ | ⟨x5, hMx⟩
       all_goals
        have x6 := x5
        rw [zbq] at x6
        try rw [zbq] at hMx
        have HMX := zaa.mk hMx
        clear hMx
        refine start_ (n := 19) (S := fun w' => w'.cell? ⟨w.heap.size, 0, none⟩ = some (.slice (some ⟨g, 0, none⟩) u.length vc) ∧ w'.cell? ⟨g, a1.toNat * 6 + 1, none⟩ = some (.slice dA (zae u a1).f1.length dm)) (ds := [18]) #[false, false, false, false, false, false, false, false, false, false, false, false, false, false, false, false, false, false, false] (by kernel_rfl) rfl rfl ⟨hct2, hdc⟩ (fun hHeld => ?_)
        refine zb2 (i := 0) (N := some 63) (v := ?_) (a' := ?_) #[true, false, false, false, false, false, false, false, false, false, false, false, false, false, false, false, false, false, false] rfl rfl (by kernel_rfl) (fun _ _ _ h => h) (Or.inl ⟨by rfl, ?_⟩) ?_ ?_
        rotate_left
        ·intro w'
         go_simp
         with_reducible rfl
        rotate_left
        ·simp only [Act.put, List.setIfInBounds_toArray, List.set_cons_zero, List.set_cons_succ, zbq, zbv]
         rfl
        refine zb2 (i := 1) (N := some 64) (v := ?_) (a' := ?_) #[true, true, false, false, false, false, false, false, false, false, false, false, false, false, false, false, false, false, false] rfl rfl (by kernel_rfl) (fun _ _ _ h => h) (Or.inl ⟨by rfl, ?_⟩) ?_ ?_
        rotate_left
        ·intro w'
         go_simp
         with_reducible rfl
        rotate_left
        ·simp only [Act.put, List.setIfInBounds_toArray, List.set_cons_zero, List.set_cons_succ, zbq, zbv]
         rfl
        refine zb2 (i := 2) (N := some 65) (v := ?_) (a' := ?_) #[true, true, true, false, false, false, false, false, false, false, false, false, false, false, false, false, false, false, false] rfl rfl (by kernel_rfl) (fun _ _ _ h => h) (Or.inl ⟨by rfl, ?_⟩) ?_ ?_
        rotate_left
        ·intro w'
         go_simp
         with_reducible rfl
        rotate_left
        ·simp only [Act.put, List.setIfInBounds_toArray, List.set_cons_zero, List.set_cons_succ, zbq, zbv]
         rfl
        refine zb2 (i := 3) (N := some 66) (v := ?_) (a' := ?_) #[true, true, true, true, false, false, false, false, false, false, false, false, false, false, false, false, false, false, false] rfl rfl (by kernel_rfl) (fun _ _ _ h => h) (Or.inl ⟨by rfl, ?_⟩) ?_ ?_
        rotate_left
        ·intro w'
         go_simp
         with_reducible rfl
        rotate_left
        ·simp only [Act.put, List.setIfInBounds_toArray, List.set_cons_zero, List.set_cons_succ, zbq, zbv]
         rfl
        refine zb2 (i := 5) (N := some 68) (v := ?_) (a' := ?_) #[true, true, true, true, false, true, false, false, false, false, false, false, false, false, false, false, false, false, false] rfl rfl (by kernel_rfl) (fun _ _ _ h => h) (Or.inl ⟨by rfl, ?_⟩) ?_ ?_
        rotate_left
        ·intro w'
         go_simp
         with_reducible rfl
        rotate_left
        ·simp only [Act.put, List.setIfInBounds_toArray, List.set_cons_zero, List.set_cons_succ, zbq, zbv]
         rfl
        refine zb2 (i := 6) (N := some 69) (v := ?_) (a' := ?_) #[true, true, true, true, false, true, true, false, false, false, false, false, false, false, false, false, false, false, false] rfl rfl (by kernel_rfl) (fun _ _ _ h => h) (Or.inl ⟨by rfl, ?_⟩) ?_ ?_
        rotate_left
        ·intro w'
         go_simp
         with_reducible rfl
        rotate_left
        ·simp only [Act.put, List.setIfInBounds_toArray, List.set_cons_zero, List.set_cons_succ, zbq, zbv]
         rfl
        refine zb2 (i := 7) (N := some 70) (v := ?_) (a' := ?_) #[true, true, true, true, false, true, true, true, false, false, false, false, false, false, false, false, false, false, false] rfl rfl (by kernel_rfl) (fun _ _ _ h => h) (Or.inl ⟨by rfl, ?_⟩) ?_ ?_
        rotate_left
        ·intro w'
         go_simp
         with_reducible rfl
        rotate_left
        ·simp only [Act.put, List.setIfInBounds_toArray, List.set_cons_zero, List.set_cons_succ, zbq, zbv]
         rfl
        refine zb2 (i := 10) (N := some 73) (v := ?_) (a' := ?_) #[true, true, true, true, false, true, true, true, false, false, true, false, false, false, false, false, false, false, false] rfl rfl (by kernel_rfl) (fun _ _ _ h => h) (Or.inl ⟨by rfl, ?_⟩) ?_ ?_
        rotate_left
        ·intro w'
         go_simp
         with_reducible rfl
        rotate_left
        ·simp only [Act.put, List.setIfInBounds_toArray, List.set_cons_zero, List.set_cons_succ, zbq, zbv]
         rfl
        refine zb2 (i := 11) (N := some 74) (v := ?_) (a' := ?_) #[true, true, true, true, false, true, true, true, false, false, true, true, false, false, false, false, false, false, false] rfl rfl (by kernel_rfl) (fun _ _ _ h => h) (Or.inl ⟨by rfl, ?_⟩) ?_ ?_
        rotate_left
        ·intro w'
         go_simp
         with_reducible rfl
        rotate_left
        ·simp only [Act.put, List.setIfInBounds_toArray, List.set_cons_zero, List.set_cons_succ, zbq, zbv]
         rfl
        refine zb2 (i := 12) (N := some 75) (v := ?_) (a' := ?_) #[true, true, true, true, false, true, true, true, false, false, true, true, true, false, false, false, false, false, false] rfl rfl (by kernel_rfl) (fun _ _ _ h => h) (Or.inl ⟨by rfl, ?_⟩) ?_ ?_
        rotate_left
        ·intro w'
         go_simp
         with_reducible rfl
        rotate_left
        ·simp only [Act.put, List.setIfInBounds_toArray, List.set_cons_zero, List.set_cons_succ, zbq, zbv]
         rfl
        refine zb2 (i := 13) (N := some 76) (v := ?_) (a' := ?_) #[true, true, true, true, false, true, true, true, false, false, true, true, true, true, false, false, false, false, false] rfl rfl (by kernel_rfl) (fun _ _ _ h => h) (Or.inl ⟨by rfl, ?_⟩) ?_ ?_
        rotate_left
        ·intro w'
         go_simp
         with_reducible rfl
        rotate_left
        ·simp only [Act.put, List.setIfInBounds_toArray, List.set_cons_zero, List.set_cons_succ, zbq, zbv]
         rfl
        refine take_ (i := 4) (N := some 67) (v := ?_) (a' := ?_) #[true, true, true, true, true, true, true, true, false, false, true, true, true, true, false, false, false, false, false] rfl rfl (by kernel_rfl) (fun _ _ _ h => h) (Or.inl ⟨by rfl, ?_⟩) hHeld ?_ ?_
        rotate_left
        ·rintro w' ⟨s0, s1⟩
         go_simp
         with_reducible rfl
        rotate_left
        ·simp only [Act.put, List.setIfInBounds_toArray, List.set_cons_zero, List.set_cons_succ, zbq, zbv]
         rfl
        refine take_ (i := 8) (N := some 71) (v := ?_) (a' := ?_) #[true, true, true, true, true, true, true, true, true, false, true, true, true, true, false, false, false, false, false] rfl rfl (by kernel_rfl) (fun _ _ _ h => h) (Or.inl ⟨by rfl, ?_⟩) hHeld ?_ ?_
        rotate_left
        ·rintro w' ⟨s0, s1⟩
         go_simp
         with_reducible rfl
        rotate_left
        ·simp only [Act.put, List.setIfInBounds_toArray, List.set_cons_zero, List.set_cons_succ, zbq, zbv]
         rfl
        refine zb2 (i := 9) (N := some 72) (v := ?_) (a' := ?_) #[true, true, true, true, true, true, true, true, true, true, true, true, true, true, false, false, false, false, false] rfl rfl (by kernel_rfl) (fun _ _ _ h => h) (Or.inl ⟨by rfl, ?_⟩) ?_ ?_
        rotate_left
        ·intro w'
         go_simp
         with_reducible rfl
        rotate_left
        ·simp only [Act.put, List.setIfInBounds_toArray, List.set_cons_zero, List.set_cons_succ, zbq, zbv]
         rfl
        refine zb2 (i := 14) (N := some 77) (v := ?_) (a' := ?_) #[true, true, true, true, true, true, true, true, true, true, true, true, true, true, true, false, false, false, false] rfl rfl (by kernel_rfl) (fun _ _ _ h => h) (Or.inl ⟨by rfl, ?_⟩) ?_ ?_
        rotate_left
        ·intro w'
         go_simp
         with_reducible rfl
        rotate_left
        ·simp only [Act.put, List.setIfInBounds_toArray, List.set_cons_zero, List.set_cons_succ, zbq, zbv]
         rfl
        refine one_ (i := 15) (N := some 78) #[true, true, true, true, true, true, true, true, true, true, true, true, true, true, true, true, false, false, false] rfl rfl (by kernel_rfl) (by decide) (fun K hK => ?_)
        have CT := zbQ.blk dA dm (zae u a1).f1 (M : Int) _ (w1.setCell ⟨w.heap.size, 0, none⟩ (.slice (some ⟨g, 0, none⟩) u.length vc)).drew (Kd.C_drew HDA.out.2.1) HDA.out.1 HZ.out
        simp only [Int.toNat_natCast] at CT
        obtain ⟨gv, hgv⟩ : ∃ gv, gv = (w1.setCell ⟨w.heap.size, 0, none⟩ (.slice (some ⟨g, 0, none⟩) u.length vc)).drew.heap.size := ⟨_, rfl⟩
        have HGV := zaa.mk hgv
        rw [← hgv] at CT
        refine goes_ Try.func47 (by kernel_rfl) rfl #[.slice dA (zae u a1).f1.length dm, .int .i64 ((M : Nat) : Int)] (by rfl) rfl rfl (by simp only [List.map_toArray, List.map_cons, List.map_nil]; exact congrArg (fun x => #[Value.slice dA (zae u a1).f1.length dm, Value.int .i64 x]) HMX.out) ?_
        refine CT.mono ?_
        rintro e' w3 ⟨rfl, hg3, hb3⟩
        clear CT hgv
        have hb4 : Below (w1.setCell ⟨w.heap.size, 0, none⟩ (.slice (some ⟨g, 0, none⟩) u.length vc)).heap.size (w1.setCell ⟨w.heap.size, 0, none⟩ (.slice (some ⟨g, 0, none⟩) u.length vc)) w3 := zai (zaH (Below.refl _ _)) (by rw [HGV.out] at hb3; exact hb3)
        have HB4 := zaa.mk hb4
        have HG3 := zaa.mk hg3
        have HK6b := zaa.mk (zaq HK6.out hb4)
        have HK12b := zaa.mk (zaq HK12.out hb4)
        have HGB3 := zaa.mk (zaq HGBK.out hb4)
        have hct3 := (zah HK6b.out 0).trans rfl
        have hdc3 := (hb4.cell (World.block_lt_of_cell? _ _ hdc)).trans hdc
        have hfr3 := zaf HGB3.out (a1.toNat * 6 + 1)
        have HK6c := zaa.mk (zaC HK6b.out (p := ⟨g, a1.toNat * 6 + 1, none⟩) (fun e => HDA.out.2.2.1.1 e.symm) (.slice (some ⟨gv, 0, none⟩) M M))
        have HK12c := zaa.mk (zaC HK12b.out (p := ⟨g, a1.toNat * 6 + 1, none⟩) (fun e => HDA.out.2.2.1.2 e.symm) (.slice (some ⟨gv, 0, none⟩) M M))
        have hct4 := (zah HK6c.out 0).trans rfl
        have hdc4 : (w3.setCell ⟨g, a1.toNat * 6 + 1, none⟩ (.slice (some ⟨gv, 0, none⟩) M M)).cell? ⟨g, a1.toNat * 6 + 1, none⟩ = some (.slice (some ⟨gv, 0, none⟩) M M) := (by first | exact World.cell?_setCell_same _ _ _ hdc3 | exact World.cell?_setCell_same _ _ hdc3 | exact World.cell?_setCell_same' _ _ _ (by rw [hdc3]; rfl))
        clear hg3 hb3 hb4
        refine ⟨_, rfl, ?_⟩
        refine hK.out _ _ ⟨hct3, hdc3⟩ (fun hHeld => ?_)
        clear hK K
        refine norm_ (a' := ?_) ?_ ?_
        rotate_left
        ·show Act.put _ (some 78) _ = _
         simp only [Act.put, List.setIfInBounds_toArray, List.set_cons_zero, List.set_cons_succ, zbq, zbv]
         rfl
        refine zb2 (i := 16) (N := some 79) (v := ?_) (a' := ?_) #[true, true, true, true, true, true, true, true, true, true, true, true, true, true, true, true, true, false, false] rfl rfl (by kernel_rfl) (fun _ _ _ h => h) (Or.inl ⟨by rfl, ?_⟩) ?_ ?_
        rotate_left
        ·intro w'
         go_simp
         with_reducible rfl
        rotate_left
        ·simp only [Act.put, List.setIfInBounds_toArray, List.set_cons_zero, List.set_cons_succ, zbq, zbv]
         rfl
        refine zb2 (i := 17) (N := some 80) (v := ?_) (a' := ?_) #[true, true, true, true, true, true, true, true, true, true, true, true, true, true, true, true, true, true, false] rfl rfl (by kernel_rfl) (fun _ _ _ h => h) (Or.inl ⟨by rfl, ?_⟩) ?_ ?_
        rotate_left
        ·intro w'
         go_simp
         with_reducible rfl
        rotate_left
        ·simp only [Act.put, List.setIfInBounds_toArray, List.set_cons_zero, List.set_cons_succ, zbq, zbv]
         rfl
        refine last_ (i := 18) (N := none) #[true, true, true, true, true, true, true, true, true, true, true, true, true, true, true, true, true, true, true] rfl rfl (by kernel_rfl) (by decide) (fun K hK => ?_)
        refine skip_ (w1 := ?_) (by rfl) rfl ?_ ?_
        rotate_left
        ·go_simp
         rfl
        refine hK.out _ _ ?_
        clear hK K
        refine done_ (by kernel_rfl) ?_
        all_goals
         have HW4 := zaa.mk ((zai HB2.out HB4.out).setCell (p := ⟨g, a1.toNat * 6 + 1, none⟩) HDA.out.2.2.2 (.slice (some ⟨gv, 0, none⟩) M M))
         have hgvs : (w1.setCell ⟨w.heap.size, 0, none⟩ (.slice (some ⟨g, 0, none⟩) u.length vc)).heap.size ≤ gv := by rw [HGV.out]; exact Nat.le_refl _
         have HGS := zaa.mk hgvs
         have HG4 := zaa.mk (zaC HG3.out (p := ⟨g, a1.toNat * 6 + 1, none⟩) (by show gv ≠ g; have := HGL.out; omega) (.slice (some ⟨gv, 0, none⟩) M M))
         obtain ⟨i0, hi0, _, hsz8, _⟩ := info_parts info5
         have hcut := cut_from (P := Try.prog) 36 5 .i64 Try.underlying36 hi0 1 hsz8 (some ⟨gv, 0, none⟩) M M (t : Int) (by omega) (by omega)
         rw [Int.toNat_natCast, if_neg (show ¬ M = t by have := HX3.out; omega), show Option.map (fun x : Addr => x.add (t * 1)) (some ⟨gv, 0, none⟩) = some ⟨gv, t, none⟩ by simp [Addr.add]; exact fun h => h.symm] at hcut
         have hMt := eq_false (show ¬ M = t by have := HX3.out; omega)
         clear hi0 hsz8 hgvs
         go_upto_region 16 with (first | (with_reducible refine wpList_copy_nums rfl (.tmp 86) (.tmp 87) 36 36 rfl 5 Try.underlying36 (by kernel_rfl) .u8 (some ⟨gv, t, none⟩) A3 (M - t) (M - t) l3.length c3 rfl rfl gv t (sizedL (zae u a1).f1 M) l3 5 ?hg ?hy ?hd ?hf gv (w3.setCell ⟨g, a1.toNat * 6 + 1, none⟩ (.slice (some ⟨gv, 0, none⟩) M M)) ?hb (Nat.le_refl _) ?_; (case hg => exact HG4.out); (case hy => exact Kd.C_below HR3.out HW4.out); (case hd => exact fun _ => rfl); (case hf => rw [zbW]; omega); (case hb => exact Below.refl _ _); intro w5 HG5 HB5))
         have hk5 : Kept (w3.setCell ⟨g, a1.toNat * 6 + 1, none⟩ (.slice (some ⟨gv, 0, none⟩) M M)) w5 (fun k => (w1.setCell ⟨w.heap.size, 0, none⟩ (.slice (some ⟨g, 0, none⟩) u.length vc)).heap.size ≤ k) := ⟨HB5.size, fun i _ hn => HB5.block i (by have := HGS.out; omega)⟩
         have hs5 := HG5.out
         rw [List.take_of_length_le (show l3.length ≤ M - t by omega)] at hs5
         have hlen5 : (splice (sizedL (zae u a1).f1 M) t l3).length = M := by rw [length_splice _ _ _ (by rw [zbW]; omega), zbW]
         have hR5 := R_of_blk hs5 HGS.out (by rw [hlen5]; omega)
         rw [hlen5] at hR5
         obtain ⟨⟨u5, hu5⟩, hfr5, hfin⟩ := data_twice HS1.out a1 HG1.out.1 HG1.out.2.1 HB2.out.size (fun q hq => ⟨by have := zaV HK12.out; omega, by have := zaV HK12.out; omega⟩) w3 _ rfl HB4.out w5 hk5 _ hR5
         have HFIN := zaa.mk hfin
         have hlt6 := zaV HK6.out
         have hlt12 := zaV HK12.out
         have HK6e := zaa.mk ((hk5.2 _ (zaV HK6c.out) (by omega)).trans HK6c.out)
         have HK12e := zaa.mk ((hk5.2 _ (zaV HK12c.out) (by omega)).trans HK12c.out)
         have hct6 := (zah HK6e.out 0).trans rfl
         have HK6f := zaa.mk (zaC HK6e.out (p := ⟨g, a1.toNat * 6 + 5, none⟩) (fun e => HDA.out.2.2.1.1 e.symm) (.int .i64 a4))
         have HK12f := zaa.mk (zaC HK12e.out (p := ⟨g, a1.toNat * 6 + 5, none⟩) (fun e => HDA.out.2.2.1.2 e.symm) (.int .i64 a4))
         have hct7 := (zah HK6f.out 0).trans rfl
         have hct12 := (zah HK12f.out 0).trans rfl
         have hf12 := zaf HK12f.out 0
         have HB6 := zaa.mk (HW4.out.trans (HB5.mono (by have := HGS.out; have := HB2.out.size; omega)))
         clear hk5 hs5 hR5 hfin hlt6 hlt12
         go_wp2
         refine bodyPost_ret (za6 rfl _ _ (w.heap.size + 1) 24 #[.slice (some ⟨g, 0, none⟩) u.length vc] (0, 0) _ rfl (zaF HK12f.out 0 _ rfl) Try.underlying24 rfl (by kernel_rfl)) rfl ?_
         refine ⟨_, rfl, ?_, (HB6.out.setCell (p := ⟨g, a1.toNat * 6 + 5, none⟩) HDA.out.2.2.2 _).setCell (p := ⟨w.heap.size + 1, 0, none⟩) (by show _ ≤ _ + 1; omega) _⟩
         rw [← HADD.out]
         unfold wroteB
         rw [← HM.out]
         exact Kd.zbw (Kd.zbK (HFIN.out _) HK12f.out (by decide) 0 _) (fun _ _ => trivial)
     ·cases hr
    ·have Z1 : (e != 0) = true := by simpa using z1
     have hbad := HQ.out
     rw [if_neg z1] at hbad
     have HBAD := zaa.mk hbad
     clear hbad
     clear z1
     go_wp2_with (first | (go_at_call 41; refine (zaD.calls k A0_0 c0_0 l0_0 e r1 r2 _ (Kd.C_below HR.out (zai HW.out HB.out)) HC.out HBAD.out).mono ?_; rintro e' w1 ⟨v, rfl, hS, hb⟩; obtain ⟨vA, vc, rfl⟩ := Kd.zbc hS; have HS1 := zaa.mk hS; have HB1 := zaa.mk (zai HB.out hb); have HK := zaa.mk (zbe HB1.out); have hct1 := (zah HK.out.2 0).trans rfl; have hf1 := zaf HK.out.2 0; clear hS hb))
     refine bodyPost_ret (za6 rfl _ _ (w.heap.size + 1) 24 #[.slice vA r1.length vc] (0, 0) _ rfl (zaF HK.out.2 0 _ rfl) Try.underlying24 rfl (by kernel_rfl)) rfl ?_
     exact ⟨_, rfl, Kd.zbK (Kd.za8 HS1.out (zai HW.out HB.out).size) HK.out.2 (by decide) 0 _, (zai HW.out HB1.out).setCell (p := ⟨w.heap.size + 1, 0, none⟩) (by show _ ≤ _ + 1; omega) _⟩
end Go.Proofs.Ytjghephnjkffcaa.PCk
