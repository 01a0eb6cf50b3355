/- Parts of one proof, merged by a program of this repo: walks over the given program and plain facts. -/
import Derived.Test.YtjghephnjkffcaaGreatMTreeWrites2
import Derived.Test.YtjghephnjkffcaaGreatMTreeWrites4
import Derived.Deep.CutBlock
import Derived.Deep.DrawnRows
import Derived.Deep.RegionHeld3
import Derived.Test.YtjghephnjkffcaaGreatMTreeWrites5
import Derived.Test.YtjghephnjkffcaaGreatMTreeWrites8
import Derived.Test.YtjghephnjkffcaaGreatMTreeWrites9
import Derived.Test.YtjghephnjkffcaaGreatMTreeWrites10
import Derived.Test.YtjghephnjkffcaaGreatMTreeWrites11
import Derived.Test.YtjghephnjkffcaaGreatMTreeWrites12
import Derived.Test.YtjghephnjkffcaaGreatMTreeWrites7
namespace Go.Proofs.YtjghephnjkffcaaGreat.PAll
open Go.RowKit Go.Proofs.YtjghephnjkffcaaGreatW.PrintWords Go.Proofs.YtjghephnjkffcaaGreatW.PrintLast Go.Proofs.YtjghephnjkffcaaGreatW.PrintMore
attribute [local go_sem] zb2 zb0 zcn zcm zbF zbE zb1 zbZ
set_option linter.unusedVariables false
set_option linter.unusedSimpArgs false
def sizedL (l : List Int) (n : Nat) : List Int := l.take n ++ List.replicate (n - l.length) 0
theorem sizedL_splice (l : List Int) (n : Nat) : splice (List.replicate n (0 : Int)) 0 (l.take n) = sizedL l n := by
 unfold splice sizedL
 rw [List.take_zero, List.nil_append, Nat.zero_add, List.drop_replicate, List.length_take]
 congr 2
 omega
theorem length_sizedL (l : List Int) (n : Nat) : (sizedL l n).length = n := by
 unfold sizedL; rw [List.length_append, List.length_take, List.length_replicate]; omega
def tree_sized.f (l0 : List Int) (a1 : Int) : Option (List Int) := if 0 ≤ a1 then (if a1 ≤ 140737488355328 then some (sizedL l0 a1.toNat) else none) else none
set_option maxHeartbeats 1000000 in
set_option maxRecDepth 100000 in
theorem tree_sized.blk (A0 : Option Addr) (c0 : Nat) (l0 : List Int) (a1 : Int) (r : List Int) (w : World) (hr0 : Kd.C (Kd.int .u8) w A0 l0.length l0) (hc0 : l0.length ≤ c0) (h : tree_sized.f l0 a1 = some r) :
  Calls Tryz.prog 85 #[.slice A0 l0.length c0, .int .i64 a1] w fun e w' => e = .returned (.slice (some ⟨w.heap.size, 0, none⟩) a1.toNat a1.toNat) ∧ w'.heap[w.heap.size]? = some (.cells (nums .u8 r).toArray 5 (0, 0)) ∧ Below w.heap.size w w' := by
 unfold tree_sized.f at h
 split at h
 ·rename_i h0
  split at h
  ·rename_i h1
   obtain ⟨m, rfl⟩ := Int.eq_ofNat_of_zero_le h0
   rw [Int.toNat_natCast] at h
   obtain rfl := Option.some.inj h
   have HR := zaa.mk hr0
   have HM := zaa.mk (show m ≤ 140737488355328 by omega)
   have hmk := print_make (P := Tryz.prog) 37 5 .u8 1 Tryz.underlying37 info5 (by decide) m (by omega)
   rw [made_nums] at hmk
   clear h hr0 hc0 h0 h1
   obtain ⟨z, hz⟩ : ∃ z, z = List.replicate m (0 : Int) := ⟨_, rfl⟩
   rw [← hz] at hmk
   have HZ := zaa.mk hz
   clear hz
   go_enter Tryz.func85, Tryz.ntmps85
   go_wp2_with (first | (with_reducible refine wpList_copy_nums rfl (.tmp 8) (.tmp 9) 37 37 rfl 5 Tryz.underlying37 (by kernel_rfl) .u8 (some ⟨w.heap.size, 0, none⟩) A0 m m l0.length c0 rfl rfl w.heap.size 0 z l0 5 ?hg ?hy ?hd ?hf w.heap.size w ?hb (Nat.le_refl _) ?_; (case hg => exact zbb w _); (case hy => exact Kd.C_below HR.out (zad (Below.refl _ _) _)); (case hd => exact fun _ => rfl); (case hf => rw [HZ.out]; simp); (case hb => exact zad (Below.refl _ _) _); intro w1 HG HB))
   go_ret
   have hs := HG.out
   rw [HZ.out, sizedL_splice] at hs
   exact ⟨rfl, hs, HB⟩
  ·cases h
 ·cases h
def writeE (l : List S40) (node at_ : Int) (b : List Int) : Option Int :=
 (tree_file.f l node).bind fun e => some (if e = 0 then (if at_ < 0 then 28 else (if 16384 < at_ then 22 else if 16384 - at_ < (b.length : Int) then 22 else 0)) else e)
def wroteB (old : List Int) (t : Nat) (b : List Int) : List Int := splice (sizedL old (max old.length (t + b.length))) t b
def writeD (u : List S40) (node at_ : Int) (b : List Int) (now : Int) : Option (List S40) :=
 if 0 ≤ node ∧ node < (u.length : Int) ∧ 0 ≤ at_ ∧ at_ ≤ 16384 ∧ b.length ≤ 16384 ∧ (zah u node).f1.length ≤ 1000000 then some (if b.length = 0 then u else u.set node.toNat { zah u node with f1 := wroteB (zah u node).f1 at_.toNat b, f5 := now }) else none
def zbT.f (k : Nat) (l0_0 : List S40) (a1 : Int) (a2 : Int) (l3 : List Int) (a4 : Int) : Option (List S40 × Int) :=
 (linkP k l0_0 [a1] a4).bind fun p => if p = true then (writeE l0_0 a1 a2 l3).bind fun e => (if e = 0 then (zaZ.f k l0_0).bind fun u => (writeD u a1 a2 l3 a4).bind fun r => some (r, 0) else zbw.f k l0_0 e) else zbw.f k l0_0 100
theorem data_twice {w2 : World} {base g c : Nat} {ok : Nat → Prop} {l : List S40} (hS : Kd.S k40 40 w2 base ok (.slice (some ⟨g, 0, none⟩) l.length c) l) (x : Int) (h0 : 0 ≤ x) (h1 : x < (l.length : Int)) (hbase : base ≤ w2.heap.size) (hfresh : ∀ k, w2.heap.size ≤ k → ok k)
  (w3 : World) (v1' : Value) (hv1 : v1'.oneCell' = true) (hb : Below w2.heap.size w2 w3) (w5 : World) (hk5 : Kept (w3.setCell ⟨g, x.toNat * 6 + 1, none⟩ v1') w5 (fun k => w2.heap.size ≤ k)) (bs' : List Int) (hR5 : (Kd.int .u8).R 5 w5 w2.heap.size (fun _ => True) v1' bs') :
  (∃ u, w5.cell? ⟨g, x.toNat * 6 + 5, none⟩ = some u) ∧ (∀ j, w5.frozen? ⟨g, j, none⟩ = false) ∧ ∀ now : Int, Kd.S k40 40 (w5.setCell ⟨g, x.toNat * 6 + 5, none⟩ (.int .i64 now)) base ok (.slice (some ⟨g, 0, none⟩) l.length c) (l.set x.toNat { zah l x with f1 := bs', f5 := now }) := by
 obtain ⟨oki, cs, hcl, hM, hcc, hoki, hH⟩ := Kd.S_lend hS z40 x h0 h1
 obtain ⟨g', cap', e', hbg, hgl, cells, hgb⟩ := Kd.S_form hS (by omega)
 injection e' with e1 _ _
 injection e1 with e1
 injection e1 with e1
 subst e1
 obtain ⟨v1, v2, rfl, hR1, hR2⟩ := zck hM
 have hgb3 := zan hgb hb
 have hH3 := Kd.H_below (Kd.H_widen hH) hb
 have hR23 : k50.R 50 w3 base (fun k => oki k ∧ k < w2.heap.size) v2 (zah l x).f2 := Kd.zcj (Kd.zbj (Kd.zci hR2) (fun k hk => ⟨hk.1, hk.2.2.1⟩)) hb
 have hseg1 := (Kd.H_seg hH3 h0 h1 (seg := [v1']) (j := 1) (by show 1 + 1 ≤ 6; omega) (fun q hq => by rw [List.mem_singleton.1 hq]; exact hv1)).1
 have hb1 := blk_set hgb3 (x.toNat * 6 + 1) v1'
 have hR24 := Kd.R_set hR23 hgb3 (by decide) (x.toNat * 6 + 1) v1'
 have hb5 := (hk5.2 g (zaO hb1) (by omega)).trans hb1
 have hR25 : k50.R 50 w5 base (fun k => oki k ∧ k < w2.heap.size) v2 (zah l x).f2 := Kd.R_kept hR24 hk5 (fun k hk => by omega)
 have hH5 := Kd.H_step hseg1 (fun k hok hnot hlt => hk5.2 k hlt (fun hge => hnot (.inr ⟨hok, hge⟩)))
 have hcell5 : ∃ u, w5.cell? ⟨g, x.toNat * 6 + 5, none⟩ = some u := by
  obtain ⟨rows, _, _, _, _, hc5, _⟩ := Kd.H_raw hH5 h0 h1
  exact ⟨_, hc5 5 _ rfl⟩
 have hR15 : (Kd.int .u8).R 5 w5 base (fun k => oki k ∨ (ok k ∧ w2.heap.size ≤ k)) v1' bs' := Kd.zcw (Kd.zbj (Kd.zci hR5) (fun k hk => .inr ⟨hfresh k hk.2.1, hk.2.1⟩)) hbase
 refine ⟨hcell5, fun j => zaf hb5 j, fun now => ?_⟩
 have hseg2 := (Kd.H_seg hH5 h0 h1 (seg := [.int .i64 now]) (j := 5) (by show 5 + 1 ≤ 6; omega) (fun q hq => by rw [List.mem_singleton.1 hq]; rfl)).1
 refine Kd.H_back hseg2 (x' := { zah l x with f1 := bs', f5 := now }) (okp := fun k => oki k ∨ (ok k ∧ w2.heap.size ≤ k)) ?_ (fun _ hk => hk)
 exact zcg _ _ _ { zah l x with f1 := bs', f5 := now } (Kd.R_set hR15 hb5 (by decide) _ _) (Kd.R_set (Kd.zbj hR25 (fun k hk => .inl hk.1)) hb5 (by decide) _ _)
set_option maxHeartbeats 8000000 in
set_option maxRecDepth 100000 in
theorem zbT.calls (k : Nat) (A0_0 : Option Addr) (c0_0 : Nat) (l0_0 : List S40) (a1 : Int) (a2 : Int) (A3 : Option Addr) (c3 : Nat) (l3 : List Int) (a4 : Int) (r1 : List S40) (r2 : Int) (w : World) (hr0_0 : Kd.C k40 w A0_0 l0_0.length l0_0) (hc0_0 : l0_0.length ≤ c0_0) (hr3 : Kd.C (Kd.int .u8) w A3 l3.length l3) (hc3 : l3.length ≤ c3) (h : zbT.f k l0_0 a1 a2 l3 a4 = some (r1, r2)) :
  Calls Tryz.prog 44 #[.agg #[.slice A0_0 l0_0.length c0_0], .int .i64 a1, .int .i64 a2, .slice A3 l3.length c3, .int .i64 a4] w fun e w' => ∃ v0_ : Value, e = .returned (.tuple #[.agg #[v0_], .int .i64 r2]) ∧ Kd.S k40 40 w' w.heap.size (fun _ => True) v0_ r1 ∧ Below w.heap.size w w' := by
 obtain ⟨p, hP, h⟩ := Option.bind_eq_some_iff.mp h
 have HR := zaa.mk hr0_0
 have HC := zaa.mk hc0_0
 have HR3 := zaa.mk hr3
 have HC3 := zaa.mk hc3
 have hb3 := Tryz.underlying37
 have HP := zaa.mk hP
 have HH := zaa.mk h
 have hut := Tryz.underlying24
 have hun := Tryz.underlying40
 have hsi := Tryz.underlying95
 have HW := zaa.mk (treeW_below w A0_0 l0_0.length c0_0)
 have HW0 := zaa.mk (Below.refl (treeW w A0_0 l0_0.length c0_0).heap.size (treeW w A0_0 l0_0.length c0_0))
 clear hr0_0 hc0_0 hr3 hc3 hP h
 go_enter Tryz.func44, Tryz.ntmps44
 go_upto_region 1 with (fail)
 go_cut [23] (fun v23 wc => v23 = .bool (!p) ∧ zaa (Below (treeW w A0_0 l0_0.length c0_0).heap.size (treeW w A0_0 l0_0.length c0_0) wc))
 case first =>
  have hmm := HP.out
  clear HH HP
  unfold linkP at hmm
  obtain ⟨m, hm, hmm⟩ := Option.bind_eq_some_iff.mp hmm
  have HM := zaa.mk hm
  have HD := zaa.mk (Kd.zbR (R_of_blk (xs := [a1]) (k := .i64) (base := 0) (zbb (treeW w A0_0 l0_0.length c0_0) (.cells #[.int .i64 a1] 3)) (Nat.zero_le _) (by simp))).2.2
  have hWs : (treeW w A0_0 l0_0.length c0_0).heap.size = w.heap.size + 1 + 1 := by show ((w.alloc _).alloc _).heap.size = _; rw [World.size_alloc, World.size_alloc]
  rw [hWs] at HD
  clear hm hWs
  cases m with
  | false =>
   obtain rfl := Option.some.inj (show some false = some p from hmm)
   clear hmm
   go_wp2_with (first | (go_at_call 66; refine (zbv.calls k A0_0 c0_0 l0_0 (some ⟨w.heap.size + 1 + 1, 0, none⟩) 1 [a1] false _ (Kd.C_below HR.out (by repeat (first | exact HW.out | exact Below.refl _ _ | apply zad | apply zab | apply zae | apply zaB))) HC.out HD.out (by simp) HM.out).mono ?_; rintro e' w1 ⟨rfl, hb⟩; have HB1 := zaa.mk (zam (zad HW0.out _) hb); clear hb))
   go_meet
   case rel => exact ⟨rfl, HB1⟩
  | true =>
   obtain ⟨tm, ht, hmm⟩ := Option.bind_eq_some_iff.mp (show ((zbh.f a4).bind fun tm => some tm) = some p from hmm)
   obtain rfl := Option.some.inj hmm
   have HT := zaa.mk ht
   clear ht hmm
   go_wp2_with (first | (go_at_call 66; refine (zbv.calls k A0_0 c0_0 l0_0 (some ⟨w.heap.size + 1 + 1, 0, none⟩) 1 [a1] true _ (Kd.C_below HR.out (by repeat (first | exact HW.out | exact Below.refl _ _ | apply zad | apply zab | apply zae | apply zaB))) HC.out HD.out (by simp) HM.out).mono ?_; rintro e' w1 ⟨rfl, hb⟩; have HB1 := zaa.mk (zam (zad HW0.out _) hb); clear hb) | (go_at_call 67; refine (zbh.calls a4 _ _ HT.out).mono ?_; rintro e' w2 ⟨rfl, ⟨nd, rfl⟩⟩))
   go_meet
   case rel => exact ⟨rfl, ⟨by repeat (first | exact HB1.out | exact Below.refl _ _ | apply zad | apply zab | apply zae | apply zaB)⟩⟩
 case rest =>
  clear HP HW0
  obtain ⟨rfl, HB⟩ := hcut
  have hct := zbU HB.out
  cases p with
  | false =>
   have hbad : zbw.f k l0_0 100 = some (r1, r2) := HH.out
   have HBAD := zaa.mk hbad
   clear hbad
   go_wp2_with (first | (go_at_call 68; refine (zbw.calls k A0_0 c0_0 l0_0 100 r1 r2 _ (Kd.C_below HR.out (zam HW.out HB.out)) HC.out HBAD.out).mono ?_; rintro e' w1 ⟨v, rfl, hS, hb⟩; obtain ⟨vA, vc, rfl⟩ := Kd.zbG hS; have HS1 := zaa.mk hS; have HB1 := zaa.mk (zam HB.out hb); have HK := zaa.mk (treeW_blk HB1.out); have hct1 := (zac HK.out.2 0).trans rfl; have hf1 := zaf HK.out.2 0; clear hS hb))
   refine bodyPost_ret (zbl rfl _ _ (w.heap.size + 1) 24 #[.slice vA r1.length vc] (0, 0) _ rfl (zaP HK.out.2 0 _ rfl) Tryz.underlying24 rfl (by kernel_rfl)) rfl ?_
   exact ⟨_, rfl, Kd.S_set (Kd.zbD HS1.out (zam HW.out HB.out).size) HK.out.2 (by decide) 0 _, (zam HW.out HB1.out).setCell (p := ⟨w.heap.size + 1, 0, none⟩) (by show _ ≤ _ + 1; omega) _⟩
  | true =>
   obtain ⟨e, hE, hq⟩ := Option.bind_eq_some_iff.mp (show ((writeE l0_0 a1 a2 l3).bind fun e => (if e = 0 then (zaZ.f k l0_0).bind fun u => (writeD u a1 a2 l3 a4).bind fun r => some (r, 0) else zbw.f k l0_0 e)) = some (r1, r2) from HH.out)
   have HQ := zaa.mk hq
   obtain ⟨e0, hd, hE⟩ := Option.bind_eq_some_iff.mp hE
   have HE := zaa.mk (Option.some.inj hE)
   have HD := zaa.mk hd
   clear HH hq hE hd
   go_upto_block 0 with (first | (go_at_call 83; refine (tree_file.calls A0_0 c0_0 l0_0 a1 e0 _ (Kd.C_below HR.out (zam HW.out HB.out)) HC.out HD.out).mono ?_; rintro e' w1 ⟨rfl, hb⟩; have HB1 := zaa.mk (zam HB.out hb); have hct1 := zbU HB1.out; clear hb))
   clear HB hct
   go_cut [12] (fun v12 wc => v12 = .int .i64 e ∧ zaa (Below (treeW w A0_0 l0_0.length c0_0).heap.size (treeW w A0_0 l0_0.length c0_0) wc))
   case first =>
    clear HQ
    have hE := HE.out
    by_cases y1 : e0 = 0
    ·have Y1 : (e0 != 0) = false := by simpa using y1
     rw [if_pos y1] at hE
     clear HE
     by_cases y2 : a2 < 0
     ·have Y2 : decide (a2 < 0) = true := decide_eq_true y2
      rw [if_pos y2] at hE
      subst hE
      clear y1 y2
      go_wp2
      go_meet
      case rel => exact ⟨rfl, HB1⟩
     ·have Y2 : decide (a2 < 0) = false := decide_eq_false y2
      rw [if_neg y2] at hE
      by_cases y3 : 16384 < a2
      ·have Y3 : decide (16384 < a2) = true := decide_eq_true y3
       rw [if_pos y3] at hE
       subst hE
       clear y1 y2 y3
       go_wp2
       go_meet
       case rel => exact ⟨rfl, HB1⟩
      ·have Y3 : decide (16384 < a2) = false := decide_eq_false y3
       rw [if_neg y3] at hE
       have hq0 : 0 ≤ a2 := by omega
       have hq1 : a2 ≤ 16384 := by omega
       have hm3 := HR3.out.2.1
       by_cases y4 : 16384 - a2 < (l3.length : Int)
       ·have Y5 : decide (16384 - a2 < (l3.length : Int)) = true := decide_eq_true y4
        rw [if_pos y4] at hE
        subst hE
        clear y1 y2 y3 y4
        go_wp2
        go_meet
        case rel => exact ⟨rfl, HB1⟩
       ·have Y5 : decide (16384 - a2 < (l3.length : Int)) = false := decide_eq_false y4
        rw [if_neg y4] at hE
        subst hE
        have Y4 := zaa.mk y1
        clear y1 y2 y3 y4
        go_wp2
        go_meet
        case rel => exact ⟨by rw [Y4.out], HB1⟩
    ·have Y1 : (e0 != 0) = true := by simpa using y1
     rw [if_neg y1] at hE
     subst hE
     clear HE y1
     go_wp2
     go_meet
     case rel => exact ⟨rfl, HB1⟩
   case rest =>
    clear HE HD hct1 HB1
    obtain ⟨rfl, HB⟩ := hcut
    have hct := zbU HB.out
    by_cases z1 : e = 0
    ·have Z1 : (e != 0) = false := by simpa using z1
     obtain rfl := z1
     have hq := HQ.out
     rw [if_pos rfl] at hq
     obtain ⟨u, hu, hq⟩ := Option.bind_eq_some_iff.mp hq
     obtain ⟨r, hr, hq⟩ := Option.bind_eq_some_iff.mp hq
     injection (Option.some.inj hq) with hq1 hq2
     subst hq1; subst hq2
     unfold writeD at hr
     split at hr
     ·rename_i hg1
      have HADD := zaa.mk (Option.some.inj hr)
      have HU := zaa.mk hu
      have HG1 := zaa.mk hg1
      have HSZ : zaa (w.heap.size + 2 ≤ wc.heap.size) := ⟨by have := HB.out.size; have h2 : (treeW w A0_0 l0_0.length c0_0).heap.size = w.heap.size + 1 + 1 := (by show ((w.alloc _).alloc _).heap.size = _; rw [World.size_alloc, World.size_alloc]); omega⟩
      have p0 := eq_true hg1.1
      have p1 := eq_true hg1.2.1
      have hpos : 0 < u.length := by omega
      clear HQ hq hu hr hg1
      go_upto_region 12 with (first | (go_at_call 71; refine (zaZ.calls k A0_0 c0_0 l0_0 u _ (Kd.C_below HR.out (zam HW.out HB.out)) HC.out HU.out).mono ?_; rintro e' w1 ⟨v, rfl, hS, hb⟩; obtain ⟨g, vc, rfl, hgN, hgl, _⟩ := Kd.S_form hS hpos; have HB1 := zam HB.out hb; have hK := treeW_blk HB1; have hX := boxed hK.1 hK.2 (zam HW.out HB1) (Kd.zbD (Kd.zbt (ok' := (fun k => k ≠ w.heap.size ∧ k ≠ w.heap.size + 1)) (Kd.S_bound hS) (fun k hk => ⟨by have := HSZ.out; have := hk.2.1; omega, by have := HSZ.out; have := hk.2.1; omega⟩)) (zam HW.out HB.out).size); have hct1 := zbU HB1; have hf1 := zaf hK.1 0; have HK6 := zaa.mk hX.1; have HK12 := zaa.mk hX.2.1; have HS1 := zaa.mk hX.2.2.1; have HB2 := zaa.mk hX.2.2.2; have hct2 := (zac HK6.out 0).trans rfl; have hf2 := zaf HK6.out 0; clear hS hb hX HB1 hK))
      have hm3 := HR3.out.2.1
      by_cases x3 : l3.length = 0
      ·have X3 : decide (0 < l3.length) = false := decide_eq_false (by omega)
       have X3b : decide ((0 : Int) < (l3.length : Int)) = false := decide_eq_false (by omega)
       rw [if_pos x3] at HADD
       have hct12 := (zac HK12.out 0).trans rfl
       have hf12 := zaf HK12.out 0
       clear x3
       go_wp2
       refine bodyPost_ret (zbl rfl _ _ (w.heap.size + 1) 24 #[.slice (some ⟨g, 0, none⟩) u.length vc] (0, 0) _ rfl (zaP HK12.out 0 _ rfl) Tryz.underlying24 rfl (by kernel_rfl)) rfl ?_
       refine ⟨_, rfl, ?_, HB2.out.setCell (p := ⟨w.heap.size + 1, 0, none⟩) (by show _ ≤ _ + 1; omega) _⟩
       rw [← HADD.out]
       exact Kd.zbt (Kd.S_set HS1.out HK12.out (by decide) 0 _) (fun _ _ => trivial)
      ·have X3 : decide (0 < l3.length) = true := decide_eq_true (by omega)
       have X3b : decide ((0 : Int) < (l3.length : Int)) = true := decide_eq_true (by omega)
       rw [if_neg x3] at HADD
       have HX3 := zaa.mk (show 0 < l3.length by omega)
       obtain ⟨t, rfl⟩ : ∃ t : Nat, a2 = (t : Int) := ⟨a2.toNat, by have := HG1.out.2.2.1; omega⟩
       rw [Int.toNat_natCast] at HADD
       clear x3
       go_upto_region 14 with (fail)
       have hbs := HB2.out.size
       obtain ⟨dA, dm, hdc, hdm, hdC, hokg, hgl2, hbg, hrub⟩ := data_anew HS1.out a1 HG1.out.1 HG1.out.2.1 hbs (fun q hq => ⟨by have := zaO HK12.out; omega, by have := zaO HK12.out; omega⟩)
       have hf1m : (zah u a1).f1.length ≤ 1000000 := HG1.out.2.2.2.2.2
       have ht1 : t ≤ 16384 := by have := HG1.out.2.2.2.1; omega
       have hl1 : l3.length ≤ 16384 := HG1.out.2.2.2.2.1
       obtain ⟨M, hM⟩ : ∃ M : Nat, M = max (zah u a1).f1.length (t + l3.length) := ⟨_, rfl⟩
       have hwr : IntKind.i64.wrap ((t : Int) + (l3.length : Int)) = (t : Int) + (l3.length : Int) := by rw [zbo]; unfold wrap64; omega
       have hMx : (((zah u a1).f1.length : Int) < IntKind.i64.wrap ((t : Int) + (l3.length : Int)) ∧ IntKind.i64.wrap ((t : Int) + (l3.length : Int)) = (M : Int)) ∨ (¬ ((zah u a1).f1.length : Int) < IntKind.i64.wrap ((t : Int) + (l3.length : Int)) ∧ ((zah u a1).f1.length : Int) = (M : Int)) := by
        rw [hwr, hM, Nat.max_def]; split <;> omega
       have hM1 : (zah u a1).f1.length ≤ M := by rw [hM]; exact Nat.le_max_left _ _
       have hM2 : t + l3.length ≤ M := by rw [hM]; exact Nat.le_max_right _ _
       have hM3 : M ≤ 1100000 := by rw [hM, Nat.max_def]; split <;> omega
       have HM := zaa.mk hM
       have hsz : tree_sized.f (zah u a1).f1 (M : Int) = some (sizedL (zah u a1).f1 M) := by
        unfold tree_sized.f
        rw [if_pos (by omega), if_pos (by omega), Int.toNat_natCast]
       have HZ := zaa.mk hsz
       obtain ⟨cells, hgb⟩ : ∃ cells : Array Value, (w1.setCell ⟨w.heap.size, 0, none⟩ (.slice (some ⟨g, 0, none⟩) u.length vc)).heap[g]? = some (.cells cells 40 (0, 0)) := by
        obtain ⟨g', cap', e', _, _, cells, hgb⟩ := Kd.S_form HS1.out (by omega)
        injection e' with e1 _ _
        injection e1 with e1
        injection e1 with e1
        subst e1
        exact ⟨cells, hgb⟩
       have HGBK := zaa.mk hgb
       have HDA := zaa.mk (show _ ∧ _ ∧ _ ∧ _ from ⟨hdm, hdC, hokg, hbg⟩)
       have HGL := zaa.mk hgl2
       have hct2 := (zac HK6.out 0).trans rfl
       clear hdm hdC hokg hgl2 hbg hbs hM hsz hgb hwr hrub
       rcases hMx with ⟨x5, hMx⟩ | ⟨x5, hMx⟩
       all_goals
        have x6 := x5
        rw [zbo] at x6
        try rw [zbo] at hMx
        have HMX := zaa.mk hMx
        clear hMx
        refine start_ (n := 19) (S := fun w' => w'.cell? ⟨w.heap.size, 0, none⟩ = some (.slice (some ⟨g, 0, none⟩) u.length vc) ∧ w'.cell? ⟨g, a1.toNat * 6 + 1, none⟩ = some (.slice dA (zah u a1).f1.length dm)) (ds := [18]) #[false, false, false, false, false, false, false, false, false, false, false, false, false, false, false, false, false, false, false] (by kernel_rfl) rfl rfl ⟨hct2, hdc⟩ (fun hHeld => ?_)
        refine zbO (i := 0) (N := some 63) (v := ?_) (a' := ?_) #[true, false, false, false, false, false, false, false, false, false, false, false, false, false, false, false, false, false, false] rfl rfl (by kernel_rfl) (fun _ _ _ h => h) (Or.inl ⟨by rfl, ?_⟩) ?_ ?_
        rotate_left
        ·intro w'
         go_simp
         with_reducible rfl
        rotate_left
        ·simp only [Act.put, List.setIfInBounds_toArray, List.set_cons_zero, List.set_cons_succ, zbo, zbr]
         rfl
        refine zbO (i := 1) (N := some 64) (v := ?_) (a' := ?_) #[true, true, false, false, false, false, false, false, false, false, false, false, false, false, false, false, false, false, false] rfl rfl (by kernel_rfl) (fun _ _ _ h => h) (Or.inl ⟨by rfl, ?_⟩) ?_ ?_
        rotate_left
        ·intro w'
         go_simp
         with_reducible rfl
        rotate_left
        ·simp only [Act.put, List.setIfInBounds_toArray, List.set_cons_zero, List.set_cons_succ, zbo, zbr]
         rfl
        refine zbO (i := 2) (N := some 65) (v := ?_) (a' := ?_) #[true, true, true, false, false, false, false, false, false, false, false, false, false, false, false, false, false, false, false] rfl rfl (by kernel_rfl) (fun _ _ _ h => h) (Or.inl ⟨by rfl, ?_⟩) ?_ ?_
        rotate_left
        ·intro w'
         go_simp
         with_reducible rfl
        rotate_left
        ·simp only [Act.put, List.setIfInBounds_toArray, List.set_cons_zero, List.set_cons_succ, zbo, zbr]
         rfl
        refine zbO (i := 3) (N := some 66) (v := ?_) (a' := ?_) #[true, true, true, true, false, false, false, false, false, false, false, false, false, false, false, false, false, false, false] rfl rfl (by kernel_rfl) (fun _ _ _ h => h) (Or.inl ⟨by rfl, ?_⟩) ?_ ?_
        rotate_left
        ·intro w'
         go_simp
         with_reducible rfl
        rotate_left
        ·simp only [Act.put, List.setIfInBounds_toArray, List.set_cons_zero, List.set_cons_succ, zbo, zbr]
         rfl
        refine zbO (i := 5) (N := some 68) (v := ?_) (a' := ?_) #[true, true, true, true, false, true, false, false, false, false, false, false, false, false, false, false, false, false, false] rfl rfl (by kernel_rfl) (fun _ _ _ h => h) (Or.inl ⟨by rfl, ?_⟩) ?_ ?_
        rotate_left
        ·intro w'
         go_simp
         with_reducible rfl
        rotate_left
        ·simp only [Act.put, List.setIfInBounds_toArray, List.set_cons_zero, List.set_cons_succ, zbo, zbr]
         rfl
        refine zbO (i := 6) (N := some 69) (v := ?_) (a' := ?_) #[true, true, true, true, false, true, true, false, false, false, false, false, false, false, false, false, false, false, false] rfl rfl (by kernel_rfl) (fun _ _ _ h => h) (Or.inl ⟨by rfl, ?_⟩) ?_ ?_
        rotate_left
        ·intro w'
         go_simp
         with_reducible rfl
        rotate_left
        ·simp only [Act.put, List.setIfInBounds_toArray, List.set_cons_zero, List.set_cons_succ, zbo, zbr]
         rfl
        refine zbO (i := 7) (N := some 70) (v := ?_) (a' := ?_) #[true, true, true, true, false, true, true, true, false, false, false, false, false, false, false, false, false, false, false] rfl rfl (by kernel_rfl) (fun _ _ _ h => h) (Or.inl ⟨by rfl, ?_⟩) ?_ ?_
        rotate_left
        ·intro w'
         go_simp
         with_reducible rfl
        rotate_left
        ·simp only [Act.put, List.setIfInBounds_toArray, List.set_cons_zero, List.set_cons_succ, zbo, zbr]
         rfl
        refine zbO (i := 10) (N := some 73) (v := ?_) (a' := ?_) #[true, true, true, true, false, true, true, true, false, false, true, false, false, false, false, false, false, false, false] rfl rfl (by kernel_rfl) (fun _ _ _ h => h) (Or.inl ⟨by rfl, ?_⟩) ?_ ?_
        rotate_left
        ·intro w'
         go_simp
         with_reducible rfl
        rotate_left
        ·simp only [Act.put, List.setIfInBounds_toArray, List.set_cons_zero, List.set_cons_succ, zbo, zbr]
         rfl
        refine zbO (i := 11) (N := some 74) (v := ?_) (a' := ?_) #[true, true, true, true, false, true, true, true, false, false, true, true, false, false, false, false, false, false, false] rfl rfl (by kernel_rfl) (fun _ _ _ h => h) (Or.inl ⟨by rfl, ?_⟩) ?_ ?_
        rotate_left
        ·intro w'
         go_simp
         with_reducible rfl
        rotate_left
        ·simp only [Act.put, List.setIfInBounds_toArray, List.set_cons_zero, List.set_cons_succ, zbo, zbr]
         rfl
        refine zbO (i := 12) (N := some 75) (v := ?_) (a' := ?_) #[true, true, true, true, false, true, true, true, false, false, true, true, true, false, false, false, false, false, false] rfl rfl (by kernel_rfl) (fun _ _ _ h => h) (Or.inl ⟨by rfl, ?_⟩) ?_ ?_
        rotate_left
        ·intro w'
         go_simp
         with_reducible rfl
        rotate_left
        ·simp only [Act.put, List.setIfInBounds_toArray, List.set_cons_zero, List.set_cons_succ, zbo, zbr]
         rfl
        refine zbO (i := 13) (N := some 76) (v := ?_) (a' := ?_) #[true, true, true, true, false, true, true, true, false, false, true, true, true, true, false, false, false, false, false] rfl rfl (by kernel_rfl) (fun _ _ _ h => h) (Or.inl ⟨by rfl, ?_⟩) ?_ ?_
        rotate_left
        ·intro w'
         go_simp
         with_reducible rfl
        rotate_left
        ·simp only [Act.put, List.setIfInBounds_toArray, List.set_cons_zero, List.set_cons_succ, zbo, zbr]
         rfl
        refine take_ (i := 4) (N := some 67) (v := ?_) (a' := ?_) #[true, true, true, true, true, true, true, true, false, false, true, true, true, true, false, false, false, false, false] rfl rfl (by kernel_rfl) (fun _ _ _ h => h) (Or.inl ⟨by rfl, ?_⟩) hHeld ?_ ?_
        rotate_left
        ·rintro w' ⟨s0, s1⟩
         go_simp
         with_reducible rfl
        rotate_left
        ·simp only [Act.put, List.setIfInBounds_toArray, List.set_cons_zero, List.set_cons_succ, zbo, zbr]
         rfl
        refine take_ (i := 8) (N := some 71) (v := ?_) (a' := ?_) #[true, true, true, true, true, true, true, true, true, false, true, true, true, true, false, false, false, false, false] rfl rfl (by kernel_rfl) (fun _ _ _ h => h) (Or.inl ⟨by rfl, ?_⟩) hHeld ?_ ?_
        rotate_left
        ·rintro w' ⟨s0, s1⟩
         go_simp
         with_reducible rfl
        rotate_left
        ·simp only [Act.put, List.setIfInBounds_toArray, List.set_cons_zero, List.set_cons_succ, zbo, zbr]
         rfl
        refine zbO (i := 9) (N := some 72) (v := ?_) (a' := ?_) #[true, true, true, true, true, true, true, true, true, true, true, true, true, true, false, false, false, false, false] rfl rfl (by kernel_rfl) (fun _ _ _ h => h) (Or.inl ⟨by rfl, ?_⟩) ?_ ?_
        rotate_left
        ·intro w'
         go_simp
         with_reducible rfl
        rotate_left
        ·simp only [Act.put, List.setIfInBounds_toArray, List.set_cons_zero, List.set_cons_succ, zbo, zbr]
         rfl
        refine zbO (i := 14) (N := some 77) (v := ?_) (a' := ?_) #[true, true, true, true, true, true, true, true, true, true, true, true, true, true, true, false, false, false, false] rfl rfl (by kernel_rfl) (fun _ _ _ h => h) (Or.inl ⟨by rfl, ?_⟩) ?_ ?_
        rotate_left
        ·intro w'
         go_simp
         with_reducible rfl
        rotate_left
        ·simp only [Act.put, List.setIfInBounds_toArray, List.set_cons_zero, List.set_cons_succ, zbo, zbr]
         rfl
        refine one_ (i := 15) (N := some 78) #[true, true, true, true, true, true, true, true, true, true, true, true, true, true, true, true, false, false, false] rfl rfl (by kernel_rfl) (by decide) (fun K hK => ?_)
        have CT := tree_sized.blk dA dm (zah u a1).f1 (M : Int) _ (w1.setCell ⟨w.heap.size, 0, none⟩ (.slice (some ⟨g, 0, none⟩) u.length vc)).drew (Kd.C_drew HDA.out.2.1) HDA.out.1 HZ.out
        simp only [Int.toNat_natCast] at CT
        obtain ⟨gv, hgv⟩ : ∃ gv, gv = (w1.setCell ⟨w.heap.size, 0, none⟩ (.slice (some ⟨g, 0, none⟩) u.length vc)).drew.heap.size := ⟨_, rfl⟩
        have HGV := zaa.mk hgv
        rw [← hgv] at CT
        refine goes_ Tryz.func85 (by kernel_rfl) rfl #[.slice dA (zah u a1).f1.length dm, .int .i64 ((M : Nat) : Int)] (by rfl) rfl rfl (by simp only [List.map_toArray, List.map_cons, List.map_nil]; exact congrArg (fun x => #[Value.slice dA (zah u a1).f1.length dm, Value.int .i64 x]) HMX.out) ?_
        refine CT.mono ?_
        rintro e' w3 ⟨rfl, hg3, hb3⟩
        clear CT hgv
        have hb4 : Below (w1.setCell ⟨w.heap.size, 0, none⟩ (.slice (some ⟨g, 0, none⟩) u.length vc)).heap.size (w1.setCell ⟨w.heap.size, 0, none⟩ (.slice (some ⟨g, 0, none⟩) u.length vc)) w3 := zam (zaB (Below.refl _ _)) (by rw [HGV.out] at hb3; exact hb3)
        have HB4 := zaa.mk hb4
        have HG3 := zaa.mk hg3
        have HK6b := zaa.mk (zan HK6.out hb4)
        have HK12b := zaa.mk (zan HK12.out hb4)
        have HGB3 := zaa.mk (zan HGBK.out hb4)
        have hct3 := (zac HK6b.out 0).trans rfl
        have hdc3 := (hb4.cell (World.block_lt_of_cell? _ _ hdc)).trans hdc
        have hfr3 := zaf HGB3.out (a1.toNat * 6 + 1)
        have HK6c := zaa.mk (zaD HK6b.out (p := ⟨g, a1.toNat * 6 + 1, none⟩) (fun e => HDA.out.2.2.1.1 e.symm) (.slice (some ⟨gv, 0, none⟩) M M))
        have HK12c := zaa.mk (zaD HK12b.out (p := ⟨g, a1.toNat * 6 + 1, none⟩) (fun e => HDA.out.2.2.1.2 e.symm) (.slice (some ⟨gv, 0, none⟩) M M))
        have hct4 := (zac HK6c.out 0).trans rfl
        have hdc4 : (w3.setCell ⟨g, a1.toNat * 6 + 1, none⟩ (.slice (some ⟨gv, 0, none⟩) M M)).cell? ⟨g, a1.toNat * 6 + 1, none⟩ = some (.slice (some ⟨gv, 0, none⟩) M M) := (by first | exact World.cell?_setCell_same _ _ _ hdc3 | exact World.cell?_setCell_same _ _ hdc3 | exact World.cell?_setCell_same' _ _ _ (by rw [hdc3]; rfl))
        clear hg3 hb3 hb4
        refine ⟨_, rfl, ?_⟩
        refine hK.out _ _ ⟨hct3, hdc3⟩ (fun hHeld => ?_)
        clear hK K
        refine norm_ (a' := ?_) ?_ ?_
        rotate_left
        ·show Act.put _ (some 78) _ = _
         simp only [Act.put, List.setIfInBounds_toArray, List.set_cons_zero, List.set_cons_succ, zbo, zbr]
         rfl
        refine zbO (i := 16) (N := some 79) (v := ?_) (a' := ?_) #[true, true, true, true, true, true, true, true, true, true, true, true, true, true, true, true, true, false, false] rfl rfl (by kernel_rfl) (fun _ _ _ h => h) (Or.inl ⟨by rfl, ?_⟩) ?_ ?_
        rotate_left
        ·intro w'
         go_simp
         with_reducible rfl
        rotate_left
        ·simp only [Act.put, List.setIfInBounds_toArray, List.set_cons_zero, List.set_cons_succ, zbo, zbr]
         rfl
        refine zbO (i := 17) (N := some 80) (v := ?_) (a' := ?_) #[true, true, true, true, true, true, true, true, true, true, true, true, true, true, true, true, true, true, false] rfl rfl (by kernel_rfl) (fun _ _ _ h => h) (Or.inl ⟨by rfl, ?_⟩) ?_ ?_
        rotate_left
        ·intro w'
         go_simp
         with_reducible rfl
        rotate_left
        ·simp only [Act.put, List.setIfInBounds_toArray, List.set_cons_zero, List.set_cons_succ, zbo, zbr]
         rfl
        refine last_ (i := 18) (N := none) #[true, true, true, true, true, true, true, true, true, true, true, true, true, true, true, true, true, true, true] rfl rfl (by kernel_rfl) (by decide) (fun K hK => ?_)
        refine skip_ (w1 := ?_) (by rfl) rfl ?_ ?_
        rotate_left
        ·go_simp
         rfl
        refine hK.out _ _ ?_
        clear hK K
        refine done_ (by kernel_rfl) ?_
        all_goals
         have HW4 := zaa.mk ((zam HB2.out HB4.out).setCell (p := ⟨g, a1.toNat * 6 + 1, none⟩) HDA.out.2.2.2 (.slice (some ⟨gv, 0, none⟩) M M))
         have hgvs : (w1.setCell ⟨w.heap.size, 0, none⟩ (.slice (some ⟨g, 0, none⟩) u.length vc)).heap.size ≤ gv := by rw [HGV.out]; exact Nat.le_refl _
         have HGS := zaa.mk hgvs
         have HG4 := zaa.mk (zaD HG3.out (p := ⟨g, a1.toNat * 6 + 1, none⟩) (by show gv ≠ g; have := HGL.out; omega) (.slice (some ⟨gv, 0, none⟩) M M))
         obtain ⟨i0, hi0, _, hsz8, _⟩ := info_parts info5
         have hcut := cut_from (P := Tryz.prog) 37 5 .i64 Tryz.underlying37 hi0 1 hsz8 (some ⟨gv, 0, none⟩) M M (t : Int) (by omega) (by omega)
         rw [Int.toNat_natCast, if_neg (show ¬ M = t by have := HX3.out; omega), show Option.map (fun x : Addr => x.add (t * 1)) (some ⟨gv, 0, none⟩) = some ⟨gv, t, none⟩ by simp [Addr.add]; exact fun h => h.symm] at hcut
         have hMt := eq_false (show ¬ M = t by have := HX3.out; omega)
         clear hi0 hsz8 hgvs
         go_upto_region 16 with (first | (with_reducible refine wpList_copy_nums rfl (.tmp 86) (.tmp 87) 37 37 rfl 5 Tryz.underlying37 (by kernel_rfl) .u8 (some ⟨gv, t, none⟩) A3 (M - t) (M - t) l3.length c3 rfl rfl gv t (sizedL (zah u a1).f1 M) l3 5 ?hg ?hy ?hd ?hf gv (w3.setCell ⟨g, a1.toNat * 6 + 1, none⟩ (.slice (some ⟨gv, 0, none⟩) M M)) ?hb (Nat.le_refl _) ?_; (case hg => exact HG4.out); (case hy => exact Kd.C_below HR3.out HW4.out); (case hd => exact fun _ => rfl); (case hf => rw [length_sizedL]; omega); (case hb => exact Below.refl _ _); intro w5 HG5 HB5))
         have hk5 : Kept (w3.setCell ⟨g, a1.toNat * 6 + 1, none⟩ (.slice (some ⟨gv, 0, none⟩) M M)) w5 (fun k => (w1.setCell ⟨w.heap.size, 0, none⟩ (.slice (some ⟨g, 0, none⟩) u.length vc)).heap.size ≤ k) := ⟨HB5.size, fun i _ hn => HB5.block i (by have := HGS.out; omega)⟩
         have hs5 := HG5.out
         rw [List.take_of_length_le (show l3.length ≤ M - t by omega)] at hs5
         have hlen5 : (splice (sizedL (zah u a1).f1 M) t l3).length = M := by rw [length_splice _ _ _ (by rw [length_sizedL]; omega), length_sizedL]
         have hR5 := R_of_blk hs5 HGS.out (by rw [hlen5]; omega)
         rw [hlen5] at hR5
         obtain ⟨⟨u5, hu5⟩, hfr5, hfin⟩ := data_twice HS1.out a1 HG1.out.1 HG1.out.2.1 HB2.out.size (fun q hq => ⟨by have := zaO HK12.out; omega, by have := zaO HK12.out; omega⟩) w3 _ rfl HB4.out w5 hk5 _ hR5
         have HFIN := zaa.mk hfin
         have hlt6 := zaO HK6.out
         have hlt12 := zaO HK12.out
         have HK6e := zaa.mk ((hk5.2 _ (zaO HK6c.out) (by omega)).trans HK6c.out)
         have HK12e := zaa.mk ((hk5.2 _ (zaO HK12c.out) (by omega)).trans HK12c.out)
         have hct6 := (zac HK6e.out 0).trans rfl
         have HK6f := zaa.mk (zaD HK6e.out (p := ⟨g, a1.toNat * 6 + 5, none⟩) (fun e => HDA.out.2.2.1.1 e.symm) (.int .i64 a4))
         have HK12f := zaa.mk (zaD HK12e.out (p := ⟨g, a1.toNat * 6 + 5, none⟩) (fun e => HDA.out.2.2.1.2 e.symm) (.int .i64 a4))
         have hct7 := (zac HK6f.out 0).trans rfl
         have hct12 := (zac HK12f.out 0).trans rfl
         have hf12 := zaf HK12f.out 0
         have HB6 := zaa.mk (HW4.out.trans (HB5.mono (by have := HGS.out; have := HB2.out.size; omega)))
         clear hk5 hs5 hR5 hfin hlt6 hlt12
         go_wp2
         refine bodyPost_ret (zbl rfl _ _ (w.heap.size + 1) 24 #[.slice (some ⟨g, 0, none⟩) u.length vc] (0, 0) _ rfl (zaP HK12f.out 0 _ rfl) Tryz.underlying24 rfl (by kernel_rfl)) rfl ?_
         refine ⟨_, rfl, ?_, (HB6.out.setCell (p := ⟨g, a1.toNat * 6 + 5, none⟩) HDA.out.2.2.2 _).setCell (p := ⟨w.heap.size + 1, 0, none⟩) (by show _ ≤ _ + 1; omega) _⟩
         rw [← HADD.out]
         unfold wroteB
         rw [← HM.out]
         exact Kd.zbt (Kd.S_set (HFIN.out _) HK12f.out (by decide) 0 _) (fun _ _ => trivial)
     ·cases hr
    ·have Z1 : (e != 0) = true := by simpa using z1
     have hbad := HQ.out
     rw [if_neg z1] at hbad
     have HBAD := zaa.mk hbad
     clear hbad
     clear z1
     go_wp2_with (first | (go_at_call 68; refine (zbw.calls k A0_0 c0_0 l0_0 e r1 r2 _ (Kd.C_below HR.out (zam HW.out HB.out)) HC.out HBAD.out).mono ?_; rintro e' w1 ⟨v, rfl, hS, hb⟩; obtain ⟨vA, vc, rfl⟩ := Kd.zbG hS; have HS1 := zaa.mk hS; have HB1 := zaa.mk (zam HB.out hb); have HK := zaa.mk (treeW_blk HB1.out); have hct1 := (zac HK.out.2 0).trans rfl; have hf1 := zaf HK.out.2 0; clear hS hb))
     refine bodyPost_ret (zbl rfl _ _ (w.heap.size + 1) 24 #[.slice vA r1.length vc] (0, 0) _ rfl (zaP HK.out.2 0 _ rfl) Tryz.underlying24 rfl (by kernel_rfl)) rfl ?_
     exact ⟨_, rfl, Kd.S_set (Kd.zbD HS1.out (zam HW.out HB.out).size) HK.out.2 (by decide) 0 _, (zam HW.out HB1.out).setCell (p := ⟨w.heap.size + 1, 0, none⟩) (by show _ ≤ _ + 1; omega) _⟩
def writeC (l : List S40) (n : Nat) (fr : Int) (b : List Int) : Int := if (zah l (n : Int)).f0 = 2 then 31 else if (zah l (n : Int)).f0 = 3 then 28 else if fr < 0 then 28 else if (b.length : Int) > 16384 then 22 else if fr > 16384 - (b.length : Int) then 22 else 0
theorem refWriteE_f (l : List S40) (n : Nat) (hn : n < l.length) (fr : Int) (b : List Int) : refWriteE l (n : Int) fr b = some (writeC l n fr b) := by
 unfold refWriteE writeC
 rw [fileR_f l n hn, Option.bind_some]
 by_cases c1 : (zah l (n : Int)).f0 = 2
 ·rw [if_pos c1, if_pos c1, if_neg (by decide)]
 ·rw [if_neg c1, if_neg c1]
  by_cases c2 : (zah l (n : Int)).f0 = 3
  ·rw [if_pos c2, if_pos c2, if_neg (by decide)]
  ·rw [if_neg c2, if_neg c2, if_pos rfl]
theorem writeE_f (l : List S40) (n : Nat) (hn : n < l.length) (fr : Int) (b : List Int) : writeE l (n : Int) fr b = some (writeC l n fr b) := by
 unfold writeE writeC
 rw [fileT_f l n hn, Option.bind_some]
 by_cases c1 : (zah l (n : Int)).f0 = 2
 ·rw [if_pos c1, if_pos c1, if_neg (by decide)]
 ·rw [if_neg c1, if_neg c1]
  by_cases c2 : (zah l (n : Int)).f0 = 3
  ·rw [if_pos c2, if_pos c2, if_neg (by decide)]
  ·rw [if_neg c2, if_neg c2, if_pos rfl]
   congr 1
   by_cases c3 : fr < 0
   ·rw [if_pos c3, if_pos c3]
   ·rw [if_neg c3, if_neg c3]
    by_cases c4 : (b.length : Int) > 16384
    ·rw [if_pos c4]
     by_cases c5 : 16384 < fr
     ·rw [if_pos c5]
     ·rw [if_neg c5, if_pos (by omega)]
    ·rw [if_neg c4]
     by_cases c5 : fr > 16384 - (b.length : Int)
     ·rw [if_pos c5]
      by_cases c6 : 16384 < fr
      ·rw [if_pos c6]
      ·rw [if_neg c6, if_pos (by omega)]
     ·rw [if_neg c5, if_neg (by omega), if_neg (by omega)]
theorem upD_sized (o : List Int) (t : Nat) : upD o t = sizedL o (max o.length t) := by
 unfold upD sizedL
 rw [List.take_of_length_le (Nat.le_max_left _ _)]
 congr 2
 omega
theorem putB_all (o : List Int) (f : Nat) (b : List Int) : putB (upD o (f + b.length)) f b b.length = wroteB o f b := by
 unfold putB wroteB
 rw [upD_sized, List.take_of_length_le (Nat.le_refl _)]
theorem wroteB_len (o : List Int) (f : Nat) (b : List Int) : (wroteB o f b).length = max o.length (f + b.length) := by
 rw [← putB_all, putB_len]
 ·unfold upD; rw [List.length_append, List.length_replicate]; omega
 ·unfold upD; rw [List.length_append, List.length_replicate]; omega
def WritesAt (k : Nat) (l : List S40) (n1 dir fr : Int) (b : List Int) (now : Int) : Prop :=
 ∃ (m tm b1 b2 : Bool) (r1 : List S40) (e : Int), zaF.f k b = some b ∧ zaK.f k b = some () ∧ za1.f k l = some l ∧ zas.f k l = some m ∧ za0.f now = some tm ∧ zbq.f l n1 = some b1 ∧ zbq.f l dir = some b2 ∧ za7.f k l l = some true ∧
  ((m && (tm && b1)) = false → e = 100 ∧ r1 = (if m = true then l else [])) ∧ ((m && (tm && b1)) = true → refWriteE l n1 fr b = some e ∧ (¬ (e = 0 ∧ b.length ≠ 0) → r1 = l) ∧ (e = 0 ∧ b.length ≠ 0 → (zah l n1).f1.length ≤ 1000000 ∧ r1 = l.set n1.toNat { zah l n1 with f1 := putB (upD (zah l n1).f1 (fr.toNat + b.length)) fr.toNat b b.length, f5 := now })) ∧ zbT.f k l n1 fr b now = some (r1, e) ∧ zbm.f k r1 e r1 e = some true ∧ SpoilG k r1
theorem writeC_zero {l : List S40} {n : Nat} {fr : Int} {b : List Int} (h : writeC l n fr b = 0) : (zah l (n : Int)).f0 ≠ 2 ∧ (zah l (n : Int)).f0 ≠ 3 ∧ 0 ≤ fr ∧ (b.length : Int) ≤ 16384 ∧ fr ≤ 16384 - (b.length : Int) := by
 unfold writeC at h
 by_cases c1 : (zah l (n : Int)).f0 = 2
 ·rw [if_pos c1] at h; exact absurd h (by decide)
 rw [if_neg c1] at h
 by_cases c2 : (zah l (n : Int)).f0 = 3
 ·rw [if_pos c2] at h; exact absurd h (by decide)
 rw [if_neg c2] at h
 by_cases c3 : fr < 0
 ·rw [if_pos c3] at h; exact absurd h (by decide)
 rw [if_neg c3] at h
 by_cases c4 : (b.length : Int) > 16384
 ·rw [if_pos c4] at h; exact absurd h (by decide)
 rw [if_neg c4] at h
 by_cases c5 : fr > 16384 - (b.length : Int)
 ·rw [if_pos c5] at h; exact absurd h (by decide)
 exact ⟨c1, c2, by omega, by omega, by omega⟩
theorem kind_file {x : S40} (h : zb6 x) (h0 : x.f0 ≠ 0) (h2 : x.f0 ≠ 2) (h3 : x.f0 ≠ 3) : x.f0 = 1 := by
 rcases h with h | h | h | h
 ·exact absurd h.1 h0
 ·exact h.1
 ·exact absurd h.1 h2
 ·exact absurd h.1 h3
theorem writes_at {l : List S40} (hl : l.length < 1599289640401) (hf : Fits l) (n1 dir fr : Int) (b : List Int) (hbl : b.length < 140737488355328) (now : Int) : ∃ K, ∀ k, K ≤ k → WritesAt k l n1 dir fr b now := by
 obtain ⟨m, hT, ⟨K1, hM⟩⟩ := may_both l hf
 obtain ⟨tm, htm, htt⟩ := page_time now
 obtain ⟨K2, hC⟩ := copyTree l hl hf.n
 obtain ⟨K3, hE⟩ := (eqTree l l (by omega) hf.n).out rfl
 obtain ⟨K9, hCB⟩ := copyBytes b hbl
 obtain ⟨K10, hBY⟩ := bytes_ev b hbl
 have hP := linkP_gen hT [n1] now htt
 rw [show ((m && [n1].all fun n => hasB l n) && tm) = (m && (tm && hasB l n1)) by cases m <;> cases tm <;> simp] at hP
 by_cases c : (m && (tm && hasB l n1)) = true
 ·rw [c] at hP
  have c' := c
  rw [Bool.and_eq_true, Bool.and_eq_true] at c'
  obtain ⟨hm, ht, hb1⟩ := c'
  rw [hm] at hT
  have h := of_may hf hT
  obtain ⟨n, rfl, hn, hkn⟩ := hasB_of l n1 hb1
  have hw1 := refWriteE_f l n hn fr b
  have hw2 := writeE_f l n hn fr b
  have hdl := nodeP_data (h.nodes n hn)
  by_cases z : writeC l n fr b = 0
  ·obtain ⟨q2, q3, f0, f1, f2⟩ := writeC_zero z
   have hWD : writeD l (n : Int) fr b now = some (if b.length = 0 then l else l.set n { (zah l (n : Int)) with f1 := wroteB (zah l (n : Int)).f1 fr.toNat b, f5 := now }) := by
    unfold writeD
    rw [if_pos ⟨by omega, by omega, by omega, by omega, by omega, by omega⟩, Int.toNat_natCast]
   obtain ⟨K5, h5⟩ : Ev (fun k => zbT.f k l (n : Int) fr b now) (if b.length = 0 then l else l.set n { (zah l (n : Int)) with f1 := wroteB (zah l (n : Int)).f1 fr.toNat b, f5 := now }, 0) := by
    unfold zbT.f
    refine Ev.bind hP (Ev.congr (fun _ => if_pos rfl) (Ev.congr (fun _ => by rw [hw2, Option.bind_some, if_pos z]) (Ev.bind h.own (Ev.congr (fun _ => by rw [hWD, Option.bind_some]) (Ev.now _)))))
   rw [z] at hw1
   by_cases hb0 : b.length = 0
   ·rw [if_pos hb0] at h5
    obtain ⟨K6, h6⟩ := h.told 0
    obtain ⟨K7, h7⟩ := h.spoil
    exact ⟨K1 + K2 + K3 + K5 + K6 + K7 + K9 + K10, fun k hk => ⟨m, tm, _, _, _, _, hCB k (by omega), hBY k (by omega), hC k (by omega), hM k (by omega), htm, is_f l (n : Int), is_f l dir, hE k (by omega), fun q => absurd (q.symm.trans c) (by decide), fun _ => ⟨hw1, fun _ => rfl, fun q => absurd hb0 q.2⟩, h5 k (by omega), h6 k (by omega), h7 k (by omega)⟩⟩
   ·rw [if_neg hb0] at h5
    obtain ⟨hf', hT'⟩ := may_data hf hT n hn (kind_file (h.nodes n hn) hkn q2 q3) (wroteB (zah l (n : Int)).f1 fr.toNat b) (by rw [wroteB_len]; omega) now (htt.1 ht)
    have hr := of_may hf' hT'
    obtain ⟨K6, h6⟩ := hr.told 0
    obtain ⟨K7, h7⟩ := hr.spoil
    exact ⟨K1 + K2 + K3 + K5 + K6 + K7 + K9 + K10, fun k hk => ⟨m, tm, _, _, _, _, hCB k (by omega), hBY k (by omega), hC k (by omega), hM k (by omega), htm, is_f l (n : Int), is_f l dir, hE k (by omega), fun q => absurd (q.symm.trans c) (by decide), fun _ => ⟨hw1, fun q => absurd ⟨rfl, hb0⟩ q, fun _ => ⟨by omega, by rw [putB_all, Int.toNat_natCast]⟩⟩, h5 k (by omega), h6 k (by omega), h7 k (by omega)⟩⟩
  ·obtain ⟨K5, h5⟩ : Ev (fun k => zbT.f k l (n : Int) fr b now) (l, writeC l n fr b) := by
    unfold zbT.f
    exact Ev.bind hP (Ev.congr (fun _ => if_pos rfl) (Ev.congr (fun _ => by rw [hw2, Option.bind_some, if_neg z]) (h.bad _)))
   obtain ⟨K6, h6⟩ := h.told (writeC l n fr b)
   obtain ⟨K7, h7⟩ := h.spoil
   exact ⟨K1 + K2 + K3 + K5 + K6 + K7 + K9 + K10, fun k hk => ⟨m, tm, _, _, _, _, hCB k (by omega), hBY k (by omega), hC k (by omega), hM k (by omega), htm, is_f l (n : Int), is_f l dir, hE k (by omega), fun q => absurd (q.symm.trans c) (by decide), fun _ => ⟨hw1, fun _ => rfl, fun q => absurd q.1 z⟩, h5 k (by omega), h6 k (by omega), h7 k (by omega)⟩⟩
 ·rw [Bool.not_eq_true] at c
  rw [c] at hP
  obtain ⟨K5, h5⟩ : Ev (fun k => zbT.f k l n1 fr b now) (elseR m l, 100) := by
   unfold zbT.f
   exact Ev.bind hP (Ev.congr (fun _ => if_neg (by simp)) (bad100 hf hT))
  obtain ⟨K6, h6⟩ := else_told hf hT
  obtain ⟨K7, h7⟩ := else_spoil hf hT
  exact ⟨K1 + K2 + K3 + K5 + K6 + K7 + K9 + K10, fun k hk => ⟨m, tm, _, _, _, _, hCB k (by omega), hBY k (by omega), hC k (by omega), hM k (by omega), htm, is_f l n1, is_f l dir, hE k (by omega), fun _ => ⟨rfl, rfl⟩, fun q => absurd (q.symm.trans c) (by decide), h5 k (by omega), h6 k (by omega), h7 k (by omega)⟩⟩
set_option maxHeartbeats 8000000 in
set_option maxRecDepth 100000 in
theorem tree_spoil (k : Nat) (v : Value) (l : List S40) (w0 w : World) (hB : Below w0.heap.size w0 w) (h : Kd.S k40 40 w w0.heap.size (fun _ => True) v l) (hd : ∀ x ∈ l, zaK.f k x.f1 = some ()) (hm : l.length ≤ 1000000) (hn : ∀ x ∈ l, x.f2.length ≤ 1000000) :
  Calls Tryz.prog 56 #[.agg #[v]] w fun e w' => e = .returned (.tuple #[]) ∧ Below w0.heap.size w0 w' := by
 obtain ⟨A, c, rfl⟩ := Kd.zbG h
 have HS0 := zaa.mk (Kd.zbn (Kd.zbt (ok' := fun q => q < w.heap.size) (Kd.S_bound h) (fun q hq => hq.2.2.1)) (.cells #[.slice A l.length c] 24))
 have HN0 := zaa.mk (zbb w (.cells #[.slice A l.length c] 24))
 have HB0 := zaa.mk (zad hB (.cells #[.slice A l.length c] 24))
 obtain ⟨n, hnl⟩ : ∃ n, n = l.length := ⟨_, rfl⟩
 rw [← hnl] at HS0 HN0 HB0 ⊢
 have hnm : n ≤ 1000000 := by omega
 have HN := zaa.mk hnl
 have HD := zaa.mk hd
 have HM := zaa.mk hn
 have hut := Tryz.underlying24
 have hun := Tryz.underlying40
 have hum := Tryz.underlying50
 clear h hd hm hn hB hnl
 go_enter Tryz.func56, Tryz.ntmps56
 go_wp2
 go_loopw [2] (fun v2 w' => ∃ (i : Nat) (q : List S40), i ≤ n ∧ v2 = .int .i64 i ∧ zaa (q.length = n) ∧ zaa (∀ j : Nat, i ≤ j → q[j]? = l[j]?) ∧ zaa (Kd.S k40 40 w' w0.heap.size (fun q => q < w.heap.size) (.slice A n c) q) ∧ zaa (w'.heap[w.heap.size]? = some (.cells #[.slice A n c] 24 (0, 0))) ∧ zaa (Below w0.heap.size w0 w')) (fun v2 _ => n - (intOf v2).toNat)
 case atStart => exact ⟨0, l, Nat.zero_le _, rfl, ⟨HN.out.symm⟩, ⟨fun _ _ => rfl⟩, HS0, HN0, HB0⟩
 case round =>
  clear HS0 HN0 HB0
  obtain ⟨i, q, hi, rfl, HL, HQ, HS, HX, HB⟩ := hrel
  have hctx := (zac HX.out 0).trans rfl
  by_cases hlt : i < n
  ·obtain ⟨g, cap, e, hbg, hgl, cells, hgc⟩ := Kd.S_form HS.out (by rw [HL.out]; omega)
   rw [HL.out] at e
   injection e with e1 _ e3
   subst e1
   subst e3
   have HGN : zaa (g < w.heap.size) := ⟨(Kd.S_R HS.out).1 g rfl⟩
   obtain ⟨oki, cs, hcl, hM, hcc, hoki, hH⟩ := Kd.S_lend HS.out z40 (i : Int) (by omega) (by omega)
   rw [Int.toNat_natCast] at hM hcc
   obtain ⟨y, hy⟩ : ∃ y, y = q.getD i z40 := ⟨_, rfl⟩
   have hyl : y ∈ l := by
    have h1 : q[i]? = l[i]? := HQ.out i (Nat.le_refl _)
    have h2 : i < l.length := by rw [← HN.out]; exact hlt
    rw [hy, List.getD_eq_getElem?_getD, h1, List.getElem?_eq_getElem h2]
    exact List.getElem_mem _
   rw [← hy] at hM
   obtain ⟨v1, v2, rfl, hR1, hR2⟩ := zck hM
   obtain ⟨A1, c1, rfl⟩ := Kd.zbP hR1
   obtain ⟨A2, c2, rfl⟩ := Kd.zbP hR2
   have HBY := zaa.mk (HD.out y hyl)
   have hmm := HM.out y hyl
   have hx1 : wr.cell? ⟨g, i * 6 + 1, none⟩ = some (.slice A1 y.f1.length c1) := hcc 1 _ rfl
   have HR1 := zaa.mk (Kd.R_flat (ok' := fun q => some q = (Value.slice A1 y.f1.length c1).ownBlock) (fun h => h) hR1 (fun k hk _ => hk.symm))
   have HO1 := zaa.mk hR1.1
   have HR2 := zaa.mk (Kd.zcx hR2 (Kd.R_typed hR1) (by decide))
   have HH := zaa.mk hH
   have HOK := zaa.mk hoki
   have HGL := zaa.mk hgl
   have HGB := zaa.mk hbg
   have HLT := zaa.mk hlt
   clear hcl hM hcc hoki hH hy hyl hbg hgl hgc hR1 hR2
   obtain ⟨m, hm2⟩ : ∃ m, m = y.f2.length := ⟨_, rfl⟩
   go_wp2_with (first | (go_at_call 41; refine (zaK.calls k (fun q => some q = (Value.slice A1 y.f1.length c1).ownBlock) _ y.f1 w0 _ HB.out HR1.out HBY.out).mono ?_; rintro e' w1 ⟨rfl, hb, hk⟩; have HB1 := zaa.mk hb; have HGL1 := zaa.mk (Nat.lt_of_lt_of_le HGL.out hk.1); have HX1 := zaa.mk ((hk.2 w.heap.size (zaO HX.out) (fun h => Nat.lt_irrefl _ ((HOK.out _ (HO1.out _ h.symm)).1))).trans HX.out); have HH1 := zaa.mk (Kd.H_kept HH.out hk (fun q _ hn h => hn (HO1.out q h.symm))); have HR21 := zaa.mk (Kd.R_kept HR2.out hk (fun q hq h => hq.2 h)); clear hb hk))
   have HM2 := zaa.mk hm2
   rw [← hm2] at HH1 HR21 hmm
   clear HX HS HH HR1 HR2 HB hctx hx1 hm2
   go_loopw [3] (fun v3 w' => ∃ (j : Nat) (ns : List S50), j ≤ m ∧ v3 = .int .i64 j ∧ zaa (ns.length = m) ∧ zaa (k50.R 50 w' w0.heap.size (fun q => oki q ∧ some q ≠ (Value.slice A1 y.f1.length c1).ownBlock) (.slice A2 m c2) ns) ∧ zaa (Kd.H k40 40 w' w0.heap.size (fun q => q < w.heap.size) (.slice (some ⟨g, 0, none⟩) n c) q i oki [.int .i64 y.f0, .slice A1 y.f1.length c1, .slice A2 m c2, .string y.f3, .int .i64 y.f4, .int .i64 y.f5]) ∧ zaa (w'.heap[w.heap.size]? = some (.cells #[.slice (some ⟨g, 0, none⟩) n c] 24 (0, 0))) ∧ zaa (Below w0.heap.size w0 w') ∧ zaa (g < w'.heap.size)) (fun v3 _ => m - (intOf v3).toNat)
   case atStart => exact ⟨0, y.f2, Nat.zero_le _, rfl, ⟨HM2.out.symm⟩, HR21, HH1, HX1, HB1, HGL1⟩
   case round =>
    clear HR21 HH1 HX1 HB1 HGL1 HM2
    obtain ⟨j, ns, hj, rfl, HNL, HR, HH, HX, HB, HGL2⟩ := hrel
    have hctx := (zac HX.out 0).trans rfl
    have hlt := HLT.out
    have hx2 : wr.cell? ⟨g, i * 6 + 2, none⟩ = some (.slice A2 m c2) := by
     obtain ⟨rows, _, _, _, _, hcell, _⟩ := Kd.H_raw HH.out (by omega) (by omega)
     have := hcell 2 _ rfl
     rwa [Int.toNat_natCast] at this
    by_cases hjl : j < m
    ·obtain ⟨g2, cap2, e2, hb2, hgl2, cells2, hgc2⟩ := Kd.R_form HR.out (by rw [HNL.out]; omega)
     rw [HNL.out] at e2
     injection e2 with e21 _ e23
     subst e21
     subst e23
     have HG2 : zaa (oki g2) := ⟨(HR.out.1 g2 rfl).1⟩
     obtain ⟨cc, hcl, hcM, hcc⟩ := Kd.R_get HR.out (⟨⟨#[]⟩, 0⟩ : S50) (j : Int) (by omega) (by omega)
     obtain ⟨xx, hxx⟩ : ∃ xx, xx = ns.getD (j : Int).toNat (⟨⟨#[]⟩, 0⟩ : S50) := ⟨_, rfl⟩
     rw [← hxx] at hcM
     obtain rfl := k50_openM hcM
     have HCC : zaa (∀ jj u, [Value.string xx.f0, Value.int .i64 xx.f1][jj]? = some u → wr.cell? ⟨g2, (j : Int).toNat * k50.sz + jj, none⟩ = some u) := ⟨fun jj u h => by have h2 := hcc jj u h; rwa [Addr.add_lit, Nat.zero_add] at h2⟩
     clear hcl hcM hcc hb2 hgc2 hxx
     go_wp2_with (first | (refine Kd.R_store k50 (w0 := w0) w0.heap.size rfl rfl 50 (.tmp 37) (.tmp 36) rfl 50 (o' := j * 2) (j : Int) 0 ns ⟨⟨#[115, 112, 111, 105, 108, 116]⟩, 0⟩ (.agg #[.string ⟨#[115, 112, 111, 105, 108, 116]⟩, .int .i64 0]) [.string ⟨#[115, 112, 111, 105, 108, 116]⟩, .int .i64 0] [.string xx.f0, .int .i64 xx.f1] (fun q => oki q ∧ some q ≠ (Value.slice A1 y.f1.length c1).ownBlock) (fun _ => False) rfl rfl rfl rfl (by kernel_rfl) ?_ HR.out (by omega) (by omega) rfl HCC.out (by show 0 + 2 ≤ 2; omega) (k50_mkM _ _ _ ⟨⟨#[115, 112, 111, 105, 108, 116]⟩, 0⟩) (fun _ hk => hk.elim) HB.out ?_; (intro qq hq; simp only [List.mem_cons, List.not_mem_nil, or_false] at hq; rcases hq with rfl | rfl <;> rfl); intro w4 hR4 hb4 hg4; have HX4 := zaa.mk (zbe HX.out hg4 (fun e => by injection e with e; have h1 := (HOK.out g2 HG2.out).1; omega)); have HR4 := zaa.mk hR4; have HB4 := zaa.mk hb4; have HH4 := zaa.mk (Kd.H_grown HH.out hg4 (fun q hq => by injection hq with hq; rw [← hq]; exact HG2.out)); have HGL4 := zaa.mk (Nat.lt_of_lt_of_le HGL2.out hg4.size); clear hR4 hb4 hg4))
     go_roundw
     case rel => exact ⟨j + 1, _, by omega, by go_num, ⟨by rw [List.length_set]; exact HNL.out⟩, HR4, HH4, HX4, HB4, HGL4⟩
     case measure => simp [intOf]; omega
    ·have hge : decide ((j : Int) < (m : Int)) = false := decide_eq_false (by omega)
     go_wp2_with (first | (refine Kd.H_store k40 (w0 := w0) w0.heap.size rfl rfl 40 (.tmp 42) (.tmp 41) rfl 40 (o' := i * 6) (i : Int) 0 q ⟨99, [], [], ⟨#[]⟩, 0, 0⟩ (.agg #[.int .i64 99, .slice none 0 0, .slice none 0 0, .string ⟨#[]⟩, .int .i64 0, .int .i64 0]) [.int .i64 99, .slice none 0 0, .slice none 0 0, .string ⟨#[]⟩, .int .i64 0, .int .i64 0] [.int .i64 y.f0, .slice A1 y.f1.length c1, .slice A2 m c2, .string y.f3, .int .i64 y.f4, .int .i64 y.f5] (fun q => q < w.heap.size) oki (fun _ => False) rfl rfl rfl rfl (by kernel_rfl) ?_ HH.out (by omega) (by omega) (by show 0 + 6 ≤ 6; omega) (zcg _ _ _ ⟨99, [], [], ⟨#[]⟩, 0, 0⟩ (Kd.R_nil _ _ _ _ _) (Kd.R_nil _ _ _ _ _)) (fun _ hk => hk.elim) HB.out ?_; (intro qq hq; simp only [List.mem_cons, List.not_mem_nil, or_false] at hq; rcases hq with rfl | rfl | rfl | rfl | rfl | rfl <;> rfl); intro w4 hS4 hb4 hg4; have HX4 := zaa.mk (zbe HX.out hg4 (fun e => by have := HGN.out; injection e with e; omega)); have HS4 := zaa.mk hS4; have HB4 := zaa.mk hb4; clear hS4 hb4 hg4))
     go_roundw
     case rel => exact ⟨i + 1, _, by omega, by go_num, ⟨by rw [List.length_set]; exact HL.out⟩, ⟨fun jj hjj => by rw [Int.toNat_natCast, List.getElem?_set_ne (by omega)]; exact HQ.out jj (by omega)⟩, HS4, HX4, HB4⟩
     case measure => simp [intOf]; omega
  ·have hge : decide ((i : Int) < (n : Int)) = false := decide_eq_false (by omega)
   go_wp2
   go_end0
   exact ⟨rfl, HB.out⟩
end Go.Proofs.YtjghephnjkffcaaGreat.PAll
