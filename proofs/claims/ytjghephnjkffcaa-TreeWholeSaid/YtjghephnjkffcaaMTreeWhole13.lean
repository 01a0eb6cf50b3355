/- Parts of one proof, merged by a program of this repo: walks over the given program and plain facts. -/
import Derived.Test.YtjghephnjkffcaaMTreeWhole11
import Derived.Test.YtjghephnjkffcaaMTreeWhole10
import Derived.Test.YtjghephnjkffcaaMTreeWhole12
import Derived.Test.YtjghephnjkffcaaMTreeWhole4
import Derived.Test.YtjghephnjkffcaaMTreeWhole9
import Derived.Test.YtjghephnjkffcaaMTreeWhole5
import Derived.Test.YtjghephnjkffcaaMTreeWhole2
import Derived.Deep.RegionHeld3
import Derived.Deep.DrawnRows
import Derived.Deep.CutBlock
namespace Go.Proofs.Ytjghephnjkffcaa.PCk
open Go.RowKit Go.Proofs.YtjghephnjkffcaaW.PrintWords Go.Proofs.YtjghephnjkffcaaW.PrintLast Go.Proofs.YtjghephnjkffcaaW.PrintMore
attribute [local go_sem] zbV zbT zci zch zbG zbF zbU zbS
set_option linter.unusedVariables false
set_option linter.unusedSimpArgs false
def renU (u : List S45) (old d2 : Int) (s2 : ByteArray) (now : Int) : List S45 := if 0 ≤ old then zbh (za3 u d2 s2 now) old else u
def renD (u : List S45) (n old d1 : Int) (s1 : ByteArray) (d2 : Int) (s2 : ByteArray) (now : Int) : Option (List S45) :=
 if 0 ≤ d1 ∧ d1 < (u.length : Int) ∧ 0 ≤ d2 ∧ d2 < (u.length : Int) ∧ old < (u.length : Int) ∧ (0 ≤ old → (zae u d2).f2.length ≤ 1000000 ∧ bs (zae u d2).f2 s2 < (zae u d2).f2.length) ∧
  (zae (renU u old d2 s2 now) d1).f2.length ≤ 1000000 ∧ bs (zae (renU u old d2 s2 now) d1).f2 s1 < (zae (renU u old d2 s2 now) d1).f2.length ∧
  (zae (za3 (renU u old d2 s2 now) d1 s1 now) d2).f2.length ≤ 1000000 ∧ bs (zae (za3 (renU u old d2 s2 now) d1 s1 now) d2).f2 s2 ≤ (zae (za3 (renU u old d2 s2 now) d1 s1 now) d2).f2.length
 then some (addN (za3 (renU u old d2 s2 now) d1 s1 now) d2 s2 n now) else none
def renB (k : Nat) (l : List S45) (n old d1 : Int) (s1 : ByteArray) (d2 : Int) (s2 : ByteArray) (now : Int) : Option (List S45 × Int) :=
 if 0 ≤ d2 ∧ d2 < (l.length : Int) then (if (zae l d2).f4 = 0 then zaD.f k l 44 else if old = n then (zaJ.f k l).bind fun u => some (u, 0) else (za2.f k l n d1 d2 old s2).bind fun e => if e = 0 then (zaJ.f k l).bind fun u => (renD u n old d1 s1 d2 s2 now).bind fun r => some (r, 0) else zaD.f k l e) else none
def tree_Rename.f (k : Nat) (l0_0 : List S45) (a1 : Int) (a2 : ByteArray) (a3 : Int) (a4 : ByteArray) (a5 : Int) : Option (List S45 × Int) :=
 (linkP k l0_0 [a1, a3] a5).bind fun p => if p = true then (zbz.f k l0_0 a1 a2).bind fun q => (if q.2 = 0 then (zbz.f k l0_0 a3 a4).bind fun q2 => (if q2.2 = 44 then renB k l0_0 q.1 (-1) a1 a2 a3 a4 a5 else if q2.2 = 0 then renB k l0_0 q.1 q2.1 a1 a2 a3 a4 a5 else zaD.f k l0_0 q2.2) else zaD.f k l0_0 q.2) else zaD.f k l0_0 100
theorem remove_at (W : World) (base g c N : Nat) (ok : Nat → Prop) (l : List S45) (hN : l.length = N) (dir : Int) (s : ByteArray) (now : Int) (hS : Kd.S k45 45 W base ok (.slice (some ⟨g, 0, none⟩) N c) l) (h0 : 0 ≤ dir) (h1 : dir < (N : Int)) (hbase : base ≤ W.heap.size) (hl : (zae l dir).f2.length ≤ 1000000) (hbs : bs (zae l dir).f2 s < (zae l dir).f2.length) :
  Calls Try.prog 55 #[.agg #[.slice (some ⟨g, 0, none⟩) N c], .int .i64 dir, .string s, .int .i64 now] W fun e w' => e = .returned (.tuple #[]) ∧ Kd.S k45 45 w' base ok (.slice (some ⟨g, 0, none⟩) N c) (za3 l dir s now) ∧ (za3 l dir s now).length = N ∧ Below base W w' ∧ (∀ k, k < W.heap.size → ¬ ok k → w'.heap[k]? = W.heap[k]?) := by
 subst hN
 refine (tree_remove.calls W base g c ok l dir s now hS h0 h1 hbase (by omega) hbs).mono ?_
 rintro e w' ⟨h1, h2, h3, h4⟩
 exact ⟨h1, h2, removeN_len _ _ _ _, h3, h4⟩
theorem add_at (W : World) (base g c N : Nat) (ok : Nat → Prop) (l : List S45) (hN : l.length = N) (dir : Int) (s : ByteArray) (node now : Int) (hS : Kd.S k45 45 W base ok (.slice (some ⟨g, 0, none⟩) N c) l) (h0 : 0 ≤ dir) (h1 : dir < (N : Int)) (hfresh : ∀ k, W.heap.size ≤ k → ok k) (hbase : base ≤ W.heap.size) (hl : (zae l dir).f2.length ≤ 1000000) (hbs : bs (zae l dir).f2 s ≤ (zae l dir).f2.length) :
  Calls Try.prog 52 #[.agg #[.slice (some ⟨g, 0, none⟩) N c], .int .i64 dir, .string s, .int .i64 node, .int .i64 now] W fun e w' => e = .returned (.tuple #[]) ∧ Kd.S k45 45 w' base ok (.slice (some ⟨g, 0, none⟩) N c) (addN l dir s node now) ∧ Below base W w' ∧ (∀ k, k < W.heap.size → ¬ ok k → w'.heap[k]? = W.heap[k]?) := by
 subst hN
 exact tree_add.calls W base g c ok l dir s node now hS h0 h1 hfresh hbase (by omega) hbs
theorem links_at {W : World} {base g c N : Nat} {ok : Nat → Prop} {l : List S45} (hN : l.length = N) (hS : Kd.S k45 45 W base ok (.slice (some ⟨g, 0, none⟩) N c) l) (x : Int) (h0 : 0 ≤ x) (h1 : x < (N : Int)) :
  W.cell? ⟨g, x.toNat * 6 + 4, none⟩ = some (.int .i64 (zae l x).f4) ∧ W.frozen? ⟨g, x.toNat * 6 + 4, none⟩ = false ∧ ok g ∧ base ≤ g ∧ g < W.heap.size ∧
   ∀ m : Int, Kd.S k45 45 (W.setCell ⟨g, x.toNat * 6 + 4, none⟩ (.int .i64 m)) base ok (.slice (some ⟨g, 0, none⟩) N c) (l.set x.toNat { zae l x with f4 := m }) := by
 subst hN
 exact links_anew hS x h0 h1
theorem node4 {w W : World} {A : Option Addr} {n : Nat} {l : List S45} (h : Kd.C k45 w A n l) (hb : Below w.heap.size w W) (x : Int) (h0 : 0 ≤ x) (h1 : x < (n : Int)) : ∃ ad : Addr, A = some ad ∧ W.cell? ⟨(ad.add (x.toNat * 6)).block, (ad.add (x.toNat * 6)).off + 4, none⟩ = some (.int .i64 (zae l x).f4) := by
 obtain ⟨ad, B1, d1, B2, d2, ee, hx0, hx1, hx2, hx3, hx4, hx5, _, _, _, _⟩ := zbn h x h0 h1
 exact ⟨ad, ee, (hb.cell (World.block_lt_of_cell? _ _ hx4)).trans hx4⟩
set_option maxHeartbeats 8000000 in
set_option maxRecDepth 100000 in
theorem tree_Rename.calls (k : Nat) (A0_0 : Option Addr) (c0_0 : Nat) (l0_0 : List S45) (a1 : Int) (a2 : ByteArray) (a3 : Int) (a4 : ByteArray) (a5 : Int) (r1 : List S45) (r2 : Int) (w : World) (hr0_0 : Kd.C k45 w A0_0 l0_0.length l0_0) (hc0_0 : l0_0.length ≤ c0_0) (h : tree_Rename.f k l0_0 a1 a2 a3 a4 a5 = some (r1, r2)) :
  Calls Try.prog 28 #[.agg #[.slice A0_0 l0_0.length c0_0], .int .i64 a1, .string a2, .int .i64 a3, .string a4, .int .i64 a5] w fun e w' => ∃ v0_ : Value, e = .returned (.tuple #[.agg #[v0_], .int .i64 r2]) ∧ Kd.S k45 45 w' w.heap.size (fun _ => True) v0_ r1 ∧ Below w.heap.size w w' := by
 obtain ⟨p, hP, h⟩ := Option.bind_eq_some_iff.mp h
 have HR := zaa.mk hr0_0
 have HC := zaa.mk hc0_0
 have HP := zaa.mk hP
 have HH := zaa.mk h
 have hut := Try.underlying24
 have hun := Try.underlying45
 have hsi := Try.underlying88
 have HW := zaa.mk (zb5 w A0_0 l0_0.length c0_0)
 have HW0 := zaa.mk (Below.refl (zbp w A0_0 l0_0.length c0_0).heap.size (zbp w A0_0 l0_0.length c0_0))
 clear hr0_0 hc0_0 hP h
 go_enter Try.func28, Try.ntmps28
 go_upto_region 1 with (fail)
 go_cut [28] (fun v28 wc => v28 = .bool (!p) ∧ zaa (Below (zbp w A0_0 l0_0.length c0_0).heap.size (zbp w A0_0 l0_0.length c0_0) wc))
 case first =>
  have hmm := HP.out
  clear HH HP
  unfold linkP at hmm
  obtain ⟨m, hm, hmm⟩ := Option.bind_eq_some_iff.mp hmm
  have HM := zaa.mk hm
  have HD := zaa.mk (Kd.zbL (R_of_blk (xs := [a1, a3]) (k := .i64) (base := 0) (zbC (zbp w A0_0 l0_0.length c0_0) (.cells #[.int .i64 a1, .int .i64 a3] 3)) (Nat.zero_le _) (by simp))).2.2
  have hWs : (zbp w A0_0 l0_0.length c0_0).heap.size = w.heap.size + 1 + 1 := by show ((w.alloc _).alloc _).heap.size = _; rw [World.size_alloc, World.size_alloc]
  rw [hWs] at HD
  clear hm hWs
  cases m with
  | false =>
   obtain rfl := Option.some.inj (show some false = some p from hmm)
   clear hmm
   go_wp2_with (first | (go_at_call 40; refine (zbb.calls k A0_0 c0_0 l0_0 (some ⟨w.heap.size + 1 + 1, 0, none⟩) 2 [a1, a3] false _ (Kd.C_below HR.out (by repeat (first | exact HW.out | exact Below.refl _ _ | apply zac | apply zab | apply zad | apply zaH))) HC.out HD.out (by simp) HM.out).mono ?_; rintro e' w1 ⟨rfl, hb⟩; have HB1 := zaa.mk (zai (zac HW0.out _) hb); clear hb))
   go_meet
   case rel => exact ⟨rfl, HB1⟩
  | true =>
   obtain ⟨tm, ht, hmm⟩ := Option.bind_eq_some_iff.mp (show ((za7.f a5).bind fun tm => some tm) = some p from hmm)
   obtain rfl := Option.some.inj hmm
   have HT := zaa.mk ht
   clear ht hmm
   go_wp2_with (first | (go_at_call 40; refine (zbb.calls k A0_0 c0_0 l0_0 (some ⟨w.heap.size + 1 + 1, 0, none⟩) 2 [a1, a3] true _ (Kd.C_below HR.out (by repeat (first | exact HW.out | exact Below.refl _ _ | apply zac | apply zab | apply zad | apply zaH))) HC.out HD.out (by simp) HM.out).mono ?_; rintro e' w1 ⟨rfl, hb⟩; have HB1 := zaa.mk (zai (zac HW0.out _) hb); clear hb) | (go_at_call 45; refine (za7.calls a5 _ _ HT.out).mono ?_; rintro e' w2 ⟨rfl, ⟨nd, rfl⟩⟩))
   go_meet
   case rel => exact ⟨rfl, ⟨by repeat (first | exact HB1.out | exact Below.refl _ _ | apply zac | apply zab | apply zad | apply zaH)⟩⟩
 case rest =>
  clear HP HW0
  obtain ⟨rfl, HB⟩ := hcut
  have hct := zaZ HB.out
  cases p with
  | false =>
   have hbad : zaD.f k l0_0 100 = some (r1, r2) := HH.out
   have HBAD := zaa.mk hbad
   clear hbad
   go_wp2_with (first | (go_at_call 41; refine (zaD.calls k A0_0 c0_0 l0_0 100 r1 r2 _ (Kd.C_below HR.out (zai HW.out HB.out)) HC.out HBAD.out).mono ?_; rintro e' w1 ⟨v, rfl, hS, hb⟩; obtain ⟨vA, vc, rfl⟩ := Kd.zbc hS; have HS1 := zaa.mk hS; have HB1 := zaa.mk (zai HB.out hb); have HK := zaa.mk (zbe HB1.out); have hct1 := (zah HK.out.2 0).trans rfl; have hf1 := zaf HK.out.2 0; clear hS hb))
   refine bodyPost_ret (za6 rfl _ _ (w.heap.size + 1) 24 #[.slice vA r1.length vc] (0, 0) _ rfl (zaF HK.out.2 0 _ rfl) Try.underlying24 rfl (by kernel_rfl)) rfl ?_
   exact ⟨_, rfl, Kd.zbK (Kd.za8 HS1.out (zai HW.out HB.out).size) HK.out.2 (by decide) 0 _, (zai HW.out HB1.out).setCell (p := ⟨w.heap.size + 1, 0, none⟩) (by show _ ≤ _ + 1; omega) _⟩
  | true =>
   obtain ⟨⟨n1, e1⟩, hf1, hq⟩ := Option.bind_eq_some_iff.mp (show ((zbz.f k l0_0 a1 a2).bind fun q => (if q.2 = 0 then (zbz.f k l0_0 a3 a4).bind fun q2 => (if q2.2 = 44 then renB k l0_0 q.1 (-1) a1 a2 a3 a4 a5 else if q2.2 = 0 then renB k l0_0 q.1 q2.1 a1 a2 a3 a4 a5 else zaD.f k l0_0 q2.2) else zaD.f k l0_0 q.2)) = some (r1, r2) from HH.out)
   have HF1 := zaa.mk hf1
   have HQ := zaa.mk hq
   clear hf1 hq HH
   go_wp2_with fail
   refine (zbz.calls k A0_0 c0_0 l0_0 a1 a2 n1 e1 _ (Kd.C_below HR.out (zai HW.out HB.out)) HC.out HF1.out).mono ?_
   rintro e' w1 ⟨rfl, hb⟩
   have HB1 := zaa.mk (zai HB.out hb)
   clear hct hb HB
   have HB := HB1
   clear HB1
   have hct := zaZ HB.out
   by_cases y1 : e1 = 0
   ·obtain rfl := y1
    obtain ⟨⟨n2, e2⟩, hf2, hq⟩ := Option.bind_eq_some_iff.mp (show ((zbz.f k l0_0 a3 a4).bind fun q2 => (if q2.2 = 44 then renB k l0_0 n1 (-1) a1 a2 a3 a4 a5 else if q2.2 = 0 then renB k l0_0 n1 q2.1 a1 a2 a3 a4 a5 else zaD.f k l0_0 q2.2)) = some (r1, r2) from HQ.out)
    have HF2 := zaa.mk hf2
    have HQ2 := zaa.mk hq
    clear hf2 hq HQ HF1
    go_wp2_with fail
    refine (zbz.calls k A0_0 c0_0 l0_0 a3 a4 n2 e2 _ (Kd.C_below HR.out (zai HW.out HB.out)) HC.out HF2.out).mono ?_
    rintro e' w1 ⟨rfl, hb⟩
    have HB1 := zaa.mk (zai HB.out hb)
    clear hct hb HB
    have HB := HB1
    clear HB1
    have hct := zaZ HB.out
    by_cases y2 : ¬ e2 = 44 ∧ ¬ e2 = 0
    ·have Y1 : (e2 == 44) = false := by simpa using y2.1
     have Y2 : (e2 != 0) = true := by simpa using y2.2
     have hbad : zaD.f k l0_0 e2 = some (r1, r2) := by have h1 := HQ2.out; rw [if_neg (show ¬ (n2, e2).2 = 44 from y2.1), if_neg (show ¬ (n2, e2).2 = 0 from y2.2)] at h1; exact h1
     clear y2
     have HBAD := zaa.mk hbad
     clear hbad
     go_wp2_with (first | (go_at_call 41; refine (zaD.calls k A0_0 c0_0 l0_0 e2 r1 r2 _ (Kd.C_below HR.out (zai HW.out HB.out)) HC.out HBAD.out).mono ?_; rintro e' w1 ⟨v, rfl, hS, hb⟩; obtain ⟨vA, vc, rfl⟩ := Kd.zbc hS; have HS1 := zaa.mk hS; have HB1 := zaa.mk (zai HB.out hb); have HK := zaa.mk (zbe HB1.out); have hct1 := (zah HK.out.2 0).trans rfl; have hf1 := zaf HK.out.2 0; clear hS hb))
     refine bodyPost_ret (za6 rfl _ _ (w.heap.size + 1) 24 #[.slice vA r1.length vc] (0, 0) _ rfl (zaF HK.out.2 0 _ rfl) Try.underlying24 rfl (by kernel_rfl)) rfl ?_
     exact ⟨_, rfl, Kd.zbK (Kd.za8 HS1.out (zai HW.out HB.out).size) HK.out.2 (by decide) 0 _, (zai HW.out HB1.out).setCell (p := ⟨w.heap.size + 1, 0, none⟩) (by show _ ≤ _ + 1; omega) _⟩
    ·obtain ⟨old, HOLD⟩ : ∃ old, zaa (old = if e2 = 44 then -1 else n2) := ⟨_, ⟨rfl⟩⟩
     have HREN : zaa (renB k l0_0 n1 old a1 a2 a3 a4 a5 = some (r1, r2)) := ⟨by
      have h1 := HQ2.out
      rw [HOLD.out]
      by_cases q : e2 = 44
      ·rw [if_pos q]; rw [if_pos (show (n2, e2).2 = 44 from q)] at h1; exact h1
      ·have q0 : e2 = 0 := Decidable.not_not.1 (fun q0 => y2 ⟨q, q0⟩)
       rw [if_neg q]; rw [if_neg (show ¬ (n2, e2).2 = 44 from q), if_pos (show (n2, e2).2 = 0 from q0)] at h1; exact h1⟩
     have HY := zaa.mk y2
     clear HQ2 HF2 y2
     go_upto_block 0 with (fail)
     go_cut [16] (fun v16 wc => v16 = .int .i64 old ∧ zaa (Below (zbp w A0_0 l0_0.length c0_0).heap.size (zbp w A0_0 l0_0.length c0_0) wc))
     case first =>
      clear HREN
      by_cases q : e2 = 44
      ·obtain rfl : old = -1 := HOLD.out.trans (if_pos q)
       subst q
       clear HY HOLD
       go_wp2
       go_meet
       case rel => exact ⟨rfl, HB⟩
      ·obtain rfl : old = n2 := HOLD.out.trans (if_neg q)
       obtain rfl : e2 = 0 := Decidable.not_not.1 (fun q0 => HY.out ⟨q, q0⟩)
       clear HY HOLD q
       go_wp2
       go_meet
       case rel => exact ⟨rfl, HB⟩
     case rest =>
      clear hct HB HOLD HY
      obtain ⟨rfl, HB⟩ := hcut
      have hct := zaZ HB.out
      have hq := HREN.out
      unfold renB at hq
      split at hq
      case isFalse => cases hq
      case isTrue hd2 =>
       obtain ⟨d0, d1⟩ := hd2
       have p0 := eq_true d0
       have p1 := eq_true d1
       obtain ⟨aN, rfl, hx4⟩ := node4 HR.out (zai HW.out HB.out) a3 d0 d1
       by_cases z4 : (zae l0_0 a3).f4 = 0
       ·have Z4 : ((zae l0_0 a3).f4 == 0) = true := by simpa using z4
        have hbad : zaD.f k l0_0 44 = some (r1, r2) := by rw [if_pos z4] at hq; exact hq
        clear z4 hq
        have HBAD := zaa.mk hbad
        clear hbad
        go_wp2_with (first | (go_at_call 41; refine (zaD.calls k (some aN) c0_0 l0_0 44 r1 r2 _ (Kd.C_below HR.out (zai HW.out HB.out)) HC.out HBAD.out).mono ?_; rintro e' w1 ⟨v, rfl, hS, hb⟩; obtain ⟨vA, vc, rfl⟩ := Kd.zbc hS; have HS1 := zaa.mk hS; have HB1 := zaa.mk (zai HB.out hb); have HK := zaa.mk (zbe HB1.out); have hct1 := (zah HK.out.2 0).trans rfl; have hf1 := zaf HK.out.2 0; clear hS hb))
        refine bodyPost_ret (za6 rfl _ _ (w.heap.size + 1) 24 #[.slice vA r1.length vc] (0, 0) _ rfl (zaF HK.out.2 0 _ rfl) Try.underlying24 rfl (by kernel_rfl)) rfl ?_
        exact ⟨_, rfl, Kd.zbK (Kd.za8 HS1.out (zai HW.out HB.out).size) HK.out.2 (by decide) 0 _, (zai HW.out HB1.out).setCell (p := ⟨w.heap.size + 1, 0, none⟩) (by show _ ≤ _ + 1; omega) _⟩
       ·have Z4 : ((zae l0_0 a3).f4 == 0) = false := by simpa using z4
        rw [if_neg z4] at hq
        clear z4
        by_cases zo : old = n1
        ·have ZO : (old == n1) = true := by simpa using zo
         rw [if_pos zo] at hq
         obtain ⟨u, hu, hq⟩ := Option.bind_eq_some_iff.mp hq
         injection (Option.some.inj hq) with hq1 hq2
         subst hq1; subst hq2
         have HU := zaa.mk hu
         clear hu hq zo
         go_wp2_with fail
         refine (zaJ.calls k (some aN) c0_0 l0_0 u _ (Kd.C_below HR.out (zai HW.out HB.out)) HC.out HU.out).mono ?_
         rintro e' w1 ⟨v, rfl, hS, hb⟩
         obtain ⟨vA, vc, rfl⟩ := Kd.zbc hS
         have HS1 := zaa.mk hS
         have HB1 := zaa.mk (zai HB.out hb)
         have HK := zaa.mk (zbe HB1.out)
         have hct1 := (zah HK.out.2 0).trans rfl
         have hf1 := zaf HK.out.2 0
         clear hS hb
         go_wp2
         refine bodyPost_ret (za6 rfl _ _ (w.heap.size + 1) 24 #[.slice vA u.length vc] (0, 0) _ rfl (zaF HK.out.2 0 _ rfl) Try.underlying24 rfl (by kernel_rfl)) rfl ?_
         exact ⟨_, rfl, Kd.zbK (Kd.za8 HS1.out (zai HW.out HB.out).size) HK.out.2 (by decide) 0 _, (zai HW.out HB1.out).setCell (p := ⟨w.heap.size + 1, 0, none⟩) (by show _ ≤ _ + 1; omega) _⟩
        ·have ZO : (old == n1) = false := by simpa using zo
         rw [if_neg zo] at hq
         clear zo
         obtain ⟨e3, he3, hq⟩ := Option.bind_eq_some_iff.mp hq
         have HE3 := zaa.mk he3
         have HQ3 := zaa.mk hq
         clear he3 hq HREN
         go_wp2_with fail
         refine (za2.calls k (some aN) c0_0 l0_0 n1 a1 a3 old a4 e3 _ (Kd.C_below HR.out (zai HW.out HB.out)) HC.out HE3.out).mono ?_
         rintro e' w1 ⟨rfl, hb⟩
         have HB1 := zaa.mk (zai HB.out hb)
         clear hct hb HB hx4 Z4 ZO p0 p1
         have HB := HB1
         clear HB1
         have hct := zaZ HB.out
         by_cases z3 : e3 = 0
         ·have Z3 : (e3 != 0) = false := by simpa using z3
          have hq := HQ3.out
          rw [if_pos z3] at hq
          obtain rfl := z3
          clear HQ3
          obtain ⟨u, hu, hq⟩ := Option.bind_eq_some_iff.mp hq
          obtain ⟨r, hr, hq⟩ := Option.bind_eq_some_iff.mp hq
          injection (Option.some.inj hq) with hq1 hq2
          subst hq1; subst hq2
          unfold renD at hr
          split at hr
          case isFalse => cases hr
          case isTrue hg1 =>
           obtain ⟨g1, g2, g3, g4, g5, g6, g7, g8, g9, g10⟩ := hg1
           have HADD := zaa.mk (Option.some.inj hr)
           have HU := zaa.mk hu
           have G6 := zaa.mk g6
           have G7 := zaa.mk g7
           have G8 := zaa.mk g8
           have G9 := zaa.mk g9
           have G10 := zaa.mk g10
           have HSZ : zaa (w.heap.size + 2 ≤ w1.heap.size) := ⟨by have := HB.out.size; have h2 : (zbp w (some aN) l0_0.length c0_0).heap.size = w.heap.size + 1 + 1 := (by show ((w.alloc _).alloc _).heap.size = _; rw [World.size_alloc, World.size_alloc]); omega⟩
           have hpos : 0 < u.length := by omega
           clear hq hu hr g6 g7 g8 g9 g10
           go_wp2_with fail
           refine (zaJ.calls k (some aN) c0_0 l0_0 u _ (Kd.C_below HR.out (zai HW.out HB.out)) HC.out HU.out).mono ?_
           rintro e' w3 ⟨v, rfl, hS, hb⟩
           obtain ⟨g, vc, rfl, hgN, hgl, _⟩ := Kd.S_form hS hpos
           have HB1 := zai HB.out hb
           have hK := zbe HB1
           have hX := boxed hK.1 hK.2 (zai HW.out HB1) (Kd.za8 (Kd.zbw (ok' := (fun k => k ≠ w.heap.size ∧ k ≠ w.heap.size + 1)) (Kd.S_bound hS) (fun k hk => ⟨by have := HSZ.out; have := hk.2.1; omega, by have := HSZ.out; have := hk.2.1; omega⟩)) (zai HW.out HB.out).size)
           have hct1 := zaZ HB1
           have hf1 := zaf hK.1 0
           have HK6 := zaa.mk hX.1
           have HK12 := zaa.mk hX.2.1
           have HS := zaa.mk hX.2.2.1
           have HB2 := zaa.mk hX.2.2.2
           have hct2 := (zah HK6.out 0).trans rfl
           clear hS hb hX HB1 hK hct HB HSZ
           obtain ⟨N, hNN⟩ : ∃ N, u.length = N := ⟨_, rfl⟩
           rw [hNN] at g2 g4 g5 HS HK6 HK12 HB2 hct2 hpos ⊢
           have HN := zaa.mk hNN
           by_cases ho : 0 ≤ old
           ·have o1 : decide (old ≥ 0) = true := decide_eq_true ho
            have o2 : decide (0 ≤ old) = true := decide_eq_true ho
            have hRU : renU u old a3 a4 a5 = zbh (za3 u a3 a4 a5) old := if_pos ho
            rw [hRU] at G7 G8 G9 G10 HADD
            have G7' := G7
            have G8' := G8
            have G9' := G9
            have G10' := G10
            clear G7 G8 G9 G10 hRU
            have p0 := eq_true ho
            have p1 := eq_true g5
            have GG := zaa.mk (G6.out ho)
            clear G6
            go_wp2_with fail
            refine (remove_at _ w.heap.size g vc N (fun k => k ≠ w.heap.size ∧ k ≠ w.heap.size + 1) u HN.out a3 a4 a5 HS.out g3 g4 HB2.out.size GG.out.1 GG.out.2).mono ?_
            rintro e' w4 ⟨rfl, hS5, hl5, hb5, ho5⟩
            have HN4 := zaa.mk hl5
            clear hl5
            have HK6' := zaa.mk ((ho5 w.heap.size (zaV HK6.out) (by simp)).trans HK6.out)
            have HK12' := zaa.mk ((ho5 (w.heap.size + 1) (zaV HK12.out) (by simp)).trans HK12.out)
            have HB2' := zaa.mk (HB2.out.trans hb5)
            have HS' := zaa.mk hS5
            clear HK6 HK12 HB2 HS hct2 hS5 hb5 ho5
            have HK6 := HK6'
            have HK12 := HK12'
            have HB2 := HB2'
            have HS := HS'
            clear HK6' HK12' HB2' HS'
            have hct3 := (zah HK6.out 0).trans rfl
            obtain ⟨hl4, hfl, hokg, hbg, _, hnew⟩ := links_at HN4.out HS.out old ho g5
            have HNEW := zaa.mk hnew
            have HGB := zaa.mk hbg
            have HOKG := zaa.mk hokg
            clear hnew hbg hokg
            have HN5 : zaa ((zbh (za3 u a3 a4 a5) old).length = N) := ⟨by unfold zbh; rw [List.length_set]; exact HN4.out⟩
            have HK6l := zaa.mk (fun u' : Value => zaC HK6.out (p := ⟨g, old.toNat * 6 + 4, none⟩) (fun e => HOKG.out.1 e.symm) u')
            have HK12l := zaa.mk (fun u' : Value => zaC HK12.out (p := ⟨g, old.toNat * 6 + 4, none⟩) (fun e => HOKG.out.2 e.symm) u')
            have hctl := fun u' => (zah (HK6l.out u') 0).trans rfl
            go_wp2_with fail
            have HS' := zaa.mk (HNEW.out (wrap64 ((zae (za3 u a3 a4 a5) old).f4 - 1)))
            have HK6' := zaa.mk (HK6l.out (.int .i64 (wrap64 ((zae (za3 u a3 a4 a5) old).f4 - 1))))
            have HK12' := zaa.mk (HK12l.out (.int .i64 (wrap64 ((zae (za3 u a3 a4 a5) old).f4 - 1))))
            have HB2' := zaa.mk (HB2.out.setCell (p := ⟨g, old.toNat * 6 + 4, none⟩) HGB.out (.int .i64 (wrap64 ((zae (za3 u a3 a4 a5) old).f4 - 1))))
            clear hl4 hfl hctl HNEW HK6l HK12l HOKG HGB HS HK6 HK12 HB2 hct3
            have HS := HS'
            have HK6 := HK6'
            have HK12 := HK12'
            have HB2 := HB2'
            clear HS' HK6' HK12' HB2'
            have hct3 := (zah HK6.out 0).trans rfl
            refine (remove_at _ w.heap.size g vc N (fun k => k ≠ w.heap.size ∧ k ≠ w.heap.size + 1) (zbh (za3 u a3 a4 a5) old) HN5.out a1 a2 a5 HS.out g1 g2 HB2.out.size G7'.out G8'.out).mono ?_
            rintro e' w5 ⟨rfl, hS5, hl5, hb5, ho5⟩
            have HN6 := zaa.mk hl5
            clear hl5
            have HK6' := zaa.mk ((ho5 w.heap.size (zaV HK6.out) (by simp)).trans HK6.out)
            have HK12' := zaa.mk ((ho5 (w.heap.size + 1) (zaV HK12.out) (by simp)).trans HK12.out)
            have HB2' := zaa.mk (HB2.out.trans hb5)
            have HS' := zaa.mk hS5
            clear HK6 HK12 HB2 HS hct3 hS5 hb5 ho5
            have HK6 := HK6'
            have HK12 := HK12'
            have HB2 := HB2'
            have HS := HS'
            clear HK6' HK12' HB2' HS'
            have hct4 := (zah HK6.out 0).trans rfl
            go_wp2_with fail
            refine (add_at _ w.heap.size g vc N (fun k => k ≠ w.heap.size ∧ k ≠ w.heap.size + 1) (za3 (zbh (za3 u a3 a4 a5) old) a1 a2 a5) HN6.out a3 a4 n1 a5 HS.out g3 g4 (fun k hk => by have := zaV HK6.out; have := zaV HK12.out; exact ⟨by omega, by omega⟩) HB2.out.size G9'.out G10'.out).mono ?_
            rintro e' w6 ⟨rfl, hS5, hb5, ho5⟩
            have HK6' := zaa.mk ((ho5 w.heap.size (zaV HK6.out) (by simp)).trans HK6.out)
            have HK12' := zaa.mk ((ho5 (w.heap.size + 1) (zaV HK12.out) (by simp)).trans HK12.out)
            have HB2' := zaa.mk (HB2.out.trans hb5)
            have HS' := zaa.mk hS5
            clear HK6 HK12 HB2 HS hct4 hS5 hb5 ho5
            have HK6 := HK6'
            have HK12 := HK12'
            have HB2 := HB2'
            have HS := HS'
            clear HK6' HK12' HB2' HS'
            have hct5 := (zah HK6.out 0).trans rfl
            have hct12 := (zah HK12.out 0).trans rfl
            have hf12 := zaf HK12.out 0
            go_wp2
            refine bodyPost_ret (za6 rfl _ _ (w.heap.size + 1) 24 #[.slice (some ⟨g, 0, none⟩) N vc] (0, 0) _ rfl (zaF HK12.out 0 _ rfl) Try.underlying24 rfl (by kernel_rfl)) rfl ?_
            refine ⟨_, rfl, ?_, HB2.out.setCell (p := ⟨w.heap.size + 1, 0, none⟩) (by show _ ≤ _ + 1; omega) _⟩
            rw [← HADD.out]
            exact Kd.zbw (Kd.zbK HS.out HK12.out (by decide) 0 _) (fun _ _ => trivial)
           ·have o1 : decide (old ≥ 0) = false := decide_eq_false ho
            have o2 : decide (0 ≤ old) = false := decide_eq_false ho
            have hRU : renU u old a3 a4 a5 = u := if_neg ho
            rw [hRU] at G7 G8 G9 G10 HADD
            have G7' := G7
            have G8' := G8
            have G9' := G9
            have G10' := G10
            clear G7 G8 G9 G10 hRU G6
            have hct3 := hct2
            clear hct2
            go_wp2_with fail
            refine (remove_at _ w.heap.size g vc N (fun k => k ≠ w.heap.size ∧ k ≠ w.heap.size + 1) u HN.out a1 a2 a5 HS.out g1 g2 HB2.out.size G7'.out G8'.out).mono ?_
            rintro e' w5 ⟨rfl, hS5, hl5, hb5, ho5⟩
            have HN5 := zaa.mk hl5
            clear hl5
            have HK6' := zaa.mk ((ho5 w.heap.size (zaV HK6.out) (by simp)).trans HK6.out)
            have HK12' := zaa.mk ((ho5 (w.heap.size + 1) (zaV HK12.out) (by simp)).trans HK12.out)
            have HB2' := zaa.mk (HB2.out.trans hb5)
            have HS' := zaa.mk hS5
            clear HK6 HK12 HB2 HS hct3 hS5 hb5 ho5
            have HK6 := HK6'
            have HK12 := HK12'
            have HB2 := HB2'
            have HS := HS'
            clear HK6' HK12' HB2' HS'
            have hct4 := (zah HK6.out 0).trans rfl
            go_wp2_with fail
            refine (add_at _ w.heap.size g vc N (fun k => k ≠ w.heap.size ∧ k ≠ w.heap.size + 1) (za3 u a1 a2 a5) HN5.out a3 a4 n1 a5 HS.out g3 g4 (fun k hk => by have := zaV HK6.out; have := zaV HK12.out; exact ⟨by omega, by omega⟩) HB2.out.size G9'.out G10'.out).mono ?_
            rintro e' w6 ⟨rfl, hS5, hb5, ho5⟩
            have HK6' := zaa.mk ((ho5 w.heap.size (zaV HK6.out) (by simp)).trans HK6.out)
            have HK12' := zaa.mk ((ho5 (w.heap.size + 1) (zaV HK12.out) (by simp)).trans HK12.out)
            have HB2' := zaa.mk (HB2.out.trans hb5)
            have HS' := zaa.mk hS5
            clear HK6 HK12 HB2 HS hct4 hS5 hb5 ho5
            have HK6 := HK6'
            have HK12 := HK12'
            have HB2 := HB2'
            have HS := HS'
            clear HK6' HK12' HB2' HS'
            have hct5 := (zah HK6.out 0).trans rfl
            have hct12 := (zah HK12.out 0).trans rfl
            have hf12 := zaf HK12.out 0
            go_wp2
            refine bodyPost_ret (za6 rfl _ _ (w.heap.size + 1) 24 #[.slice (some ⟨g, 0, none⟩) N vc] (0, 0) _ rfl (zaF HK12.out 0 _ rfl) Try.underlying24 rfl (by kernel_rfl)) rfl ?_
            refine ⟨_, rfl, ?_, HB2.out.setCell (p := ⟨w.heap.size + 1, 0, none⟩) (by show _ ≤ _ + 1; omega) _⟩
            rw [← HADD.out]
            exact Kd.zbw (Kd.zbK HS.out HK12.out (by decide) 0 _) (fun _ _ => trivial)
         ·have Z3 : (e3 != 0) = true := by simpa using z3
          have hbad : zaD.f k l0_0 e3 = some (r1, r2) := by have h1 := HQ3.out; rw [if_neg z3] at h1; exact h1
          clear z3 HQ3
          have HBAD := zaa.mk hbad
          clear hbad
          go_wp2_with (first | (go_at_call 41; refine (zaD.calls k (some aN) c0_0 l0_0 e3 r1 r2 _ (Kd.C_below HR.out (zai HW.out HB.out)) HC.out HBAD.out).mono ?_; rintro e' w3 ⟨v, rfl, hS, hb⟩; obtain ⟨vA, vc, rfl⟩ := Kd.zbc hS; have HS1 := zaa.mk hS; have HB1 := zaa.mk (zai HB.out hb); have HK := zaa.mk (zbe HB1.out); have hct1 := (zah HK.out.2 0).trans rfl; have hf1 := zaf HK.out.2 0; clear hS hb))
          refine bodyPost_ret (za6 rfl _ _ (w.heap.size + 1) 24 #[.slice vA r1.length vc] (0, 0) _ rfl (zaF HK.out.2 0 _ rfl) Try.underlying24 rfl (by kernel_rfl)) rfl ?_
          exact ⟨_, rfl, Kd.zbK (Kd.za8 HS1.out (zai HW.out HB.out).size) HK.out.2 (by decide) 0 _, (zai HW.out HB1.out).setCell (p := ⟨w.heap.size + 1, 0, none⟩) (by show _ ≤ _ + 1; omega) _⟩
   ·have Y1 : (e1 != 0) = true := by simpa using y1
    have hbad : zaD.f k l0_0 e1 = some (r1, r2) := by have h1 := HQ.out; rw [if_neg (show ¬ (n1, e1).2 = 0 from y1)] at h1; exact h1
    clear HQ y1
    have HBAD := zaa.mk hbad
    clear hbad
    go_wp2_with (first | (go_at_call 41; refine (zaD.calls k A0_0 c0_0 l0_0 e1 r1 r2 _ (Kd.C_below HR.out (zai HW.out HB.out)) HC.out HBAD.out).mono ?_; rintro e' w1 ⟨v, rfl, hS, hb⟩; obtain ⟨vA, vc, rfl⟩ := Kd.zbc hS; have HS1 := zaa.mk hS; have HB1 := zaa.mk (zai HB.out hb); have HK := zaa.mk (zbe HB1.out); have hct1 := (zah HK.out.2 0).trans rfl; have hf1 := zaf HK.out.2 0; clear hS hb))
    refine bodyPost_ret (za6 rfl _ _ (w.heap.size + 1) 24 #[.slice vA r1.length vc] (0, 0) _ rfl (zaF HK.out.2 0 _ rfl) Try.underlying24 rfl (by kernel_rfl)) rfl ?_
    exact ⟨_, rfl, Kd.zbK (Kd.za8 HS1.out (zai HW.out HB.out).size) HK.out.2 (by decide) 0 _, (zai HW.out HB1.out).setCell (p := ⟨w.heap.size + 1, 0, none⟩) (by show _ ≤ _ + 1; omega) _⟩
end Go.Proofs.Ytjghephnjkffcaa.PCk
