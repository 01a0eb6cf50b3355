/- Parts of one proof, merged by merge.py of this repo: walks over the given program and plain facts, used by the law of the file YtjghephnjkffcaaCTreeData. -/
import Derived.Test.YtjghephnjkffcaaMTreeData10
import Derived.Test.YtjghephnjkffcaaMTreeData4
import Derived.Test.YtjghephnjkffcaaMTreeData9
import Derived.Test.YtjghephnjkffcaaMTreeData2
import Derived.Deep.RegionHeld3
import Derived.Deep.DrawnRows
import Derived.Deep.CutBlock
import Derived.Test.YtjghephnjkffcaaMTreeData5
import Derived.Test.YtjghephnjkffcaaMTreeData6
import Derived.Test.YtjghephnjkffcaaMTreeData8
import Derived.WalkSpells
namespace Go.Proofs.Ytjghephnjkffcaa.PCk
open Go.RowKit Go.Proofs.YtjghephnjkffcaaW.PrintWords Go.Proofs.YtjghephnjkffcaaW.PrintLast Go.Proofs.YtjghephnjkffcaaW.PrintMore
attribute [local go_sem] max2_int min2_int max_two min_two max_three min_three max_four min_four
set_option linter.unusedVariables false
set_option linter.unusedSimpArgs false
-- FUNCTION: gangway/tree.Cut
-- IMPORT: Derived.Test.@N@WOwn
-- IMPORT: Derived.Deep.RegionHeld3
-- IMPORT: Derived.Deep.DrawnRows
-- IMPORT: Derived.Deep.CutBlock
def cutE (l : List S45) (node n : Int) : Option Int :=
  (tree_file.f l node).bind fun e => some (if e = 0 then (if n < 0 then 28 else (if 16384 < n then 22 else 0)) else e)
def cutD (u : List S45) (node n now : Int) : Option (List S45) :=
  if 0 ≤ node ∧ node < (u.length : Int) ∧ 0 ≤ n ∧ n ≤ 16384 then some (u.set node.toNat { rd_T45 u node with f1 := sizedL (rd_T45 u node).f1 n.toNat, f5 := now }) else none
def tree_Cut.f (k : Nat) (l0_0 : List S45) (a1 : Int) (a2 : Int) (a3 : Int) : Option (List S45 × Int) :=
  (linkP k l0_0 [a1] a3).bind fun p => if p = true then (cutE l0_0 a1 a2).bind fun e => (if e = 0 then (tree_Own.f k l0_0).bind fun u => (cutD u a1 a2 a3).bind fun r => some (r, 0) else tree_bad.f k l0_0 e) else tree_bad.f k l0_0 100
set_option maxHeartbeats 8000000 in
set_option maxRecDepth 100000 in
theorem tree_Cut.calls (k : Nat) (A0_0 : Option Addr) (c0_0 : Nat) (l0_0 : List S45) (a1 : Int) (a2 : Int) (a3 : Int) (r1 : List S45) (r2 : Int) (w : World) (hr0_0 : Kd.C k45 w A0_0 l0_0.length l0_0) (hc0_0 : l0_0.length ≤ c0_0) (h : tree_Cut.f k l0_0 a1 a2 a3 = some (r1, r2)) :
    Calls Try.prog 25 #[.agg #[.slice A0_0 l0_0.length c0_0], .int .i64 a1, .int .i64 a2, .int .i64 a3] w fun e w' => ∃ v0_ : Value, e = .returned (.tuple #[.agg #[v0_], .int .i64 r2]) ∧ Kd.S k45 45 w' w.heap.size (fun _ => True) v0_ r1 ∧ Below w.heap.size w w' := by
  obtain ⟨p, hP, h⟩ := Option.bind_eq_some_iff.mp h
  have HR := Aside0.mk hr0_0
  have HC := Aside0.mk hc0_0
  have HP := Aside0.mk hP
  have HH := Aside0.mk h
  have hut := Try.underlying24
  have hun := Try.underlying45
  have hsi := Try.underlying88
  have HW := Aside0.mk (treeW_below w A0_0 l0_0.length c0_0)
  have HW0 := Aside0.mk (Below.refl (treeW w A0_0 l0_0.length c0_0).heap.size (treeW w A0_0 l0_0.length c0_0))
  clear hr0_0 hc0_0 hP h
  go_enter Try.func25, Try.ntmps25
  go_upto_region 1 with (fail)
  go_cut [20] (fun v20 wc => v20 = .bool (!p) ∧ Aside0 (Below (treeW w A0_0 l0_0.length c0_0).heap.size (treeW w A0_0 l0_0.length c0_0) wc))
  case first =>
    have hmm := HP.out
    clear HH HP
    unfold linkP at hmm
    obtain ⟨m, hm, hmm⟩ := Option.bind_eq_some_iff.mp hmm
    have HM := Aside0.mk hm
    have HD := Aside0.mk (Kd.R_reads' (R_of_blk (xs := [a1]) (k := .i64) (base := 0) (blk_new (treeW w A0_0 l0_0.length c0_0) (.cells #[.int .i64 a1] 3)) (Nat.zero_le _) (by simp))).2.2
    have hWs : (treeW w A0_0 l0_0.length c0_0).heap.size = w.heap.size + 1 + 1 := by show ((w.alloc _).alloc _).heap.size = _; rw [World.size_alloc, World.size_alloc]
    rw [hWs] at HD
    clear hm hWs
    cases m with
    | false =>
      obtain rfl := Option.some.inj (show some false = some p from hmm)
      clear hmm
      go_wp2_with (first | (go_at_call 40; refine (tree_may.calls k A0_0 c0_0 l0_0 (some ⟨w.heap.size + 1 + 1, 0, none⟩) 1 [a1] false _ (Kd.C_below HR.out (by repeat (first | exact HW.out | exact Below.refl _ _ | apply below_alloc | apply pw_below_drewN | apply below_drew1 | apply below_drew))) HC.out HD.out (by simp) HM.out).mono ?_; rintro e' w1 ⟨rfl, hb⟩; have HB1 := Aside0.mk (below_step (below_alloc HW0.out _) hb); clear hb))
      go_meet
      case rel => exact ⟨rfl, HB1⟩
    | true =>
      obtain ⟨tm, ht, hmm⟩ := Option.bind_eq_some_iff.mp (show ((tree_time.f a3).bind fun tm => some tm) = some p from hmm)
      obtain rfl := Option.some.inj hmm
      have HT := Aside0.mk ht
      clear ht hmm
      go_wp2_with (first | (go_at_call 40; refine (tree_may.calls k A0_0 c0_0 l0_0 (some ⟨w.heap.size + 1 + 1, 0, none⟩) 1 [a1] true _ (Kd.C_below HR.out (by repeat (first | exact HW.out | exact Below.refl _ _ | apply below_alloc | apply pw_below_drewN | apply below_drew1 | apply below_drew))) HC.out HD.out (by simp) HM.out).mono ?_; rintro e' w1 ⟨rfl, hb⟩; have HB1 := Aside0.mk (below_step (below_alloc HW0.out _) hb); clear hb) | (go_at_call 45; refine (tree_time.calls a3 _ _ HT.out).mono ?_; rintro e' w2 ⟨rfl, ⟨nd, rfl⟩⟩))
      go_meet
      case rel => exact ⟨rfl, ⟨by repeat (first | exact HB1.out | exact Below.refl _ _ | apply below_alloc | apply pw_below_drewN | apply below_drew1 | apply below_drew)⟩⟩
  case rest =>
    clear HP HW0
    obtain ⟨rfl, HB⟩ := hcut
    have hct := treeW_cell HB.out
    cases p with
    | false =>
      have hbad : tree_bad.f k l0_0 100 = some (r1, r2) := HH.out
      have HBAD := Aside0.mk hbad
      clear hbad
      go_wp2_with (first | (go_at_call 41; refine (tree_bad.calls k A0_0 c0_0 l0_0 100 r1 r2 _ (Kd.C_below HR.out (below_step HW.out HB.out)) HC.out HBAD.out).mono ?_; rintro e' w1 ⟨v, rfl, hS, hb⟩; obtain ⟨vA, vc, rfl⟩ := Kd.S_slice hS; have HS1 := Aside0.mk hS; have HB1 := Aside0.mk (below_step HB.out hb); have HK := Aside0.mk (treeW_blk HB1.out); have hct1 := (blk_cell HK.out.2 0).trans rfl; have hf1 := blk_frozen HK.out.2 0; clear hS hb))
      refine bodyPost_ret (results_ct rfl _ _ (w.heap.size + 1) 24 #[.slice vA r1.length vc] (0, 0) _ rfl (blk_put HK.out.2 0 _ rfl) Try.underlying24 rfl (by kernel_rfl)) rfl ?_
      exact ⟨_, rfl, Kd.S_set (Kd.S_lower HS1.out (below_step HW.out HB.out).size) HK.out.2 (by decide) 0 _, (below_step HW.out HB1.out).setCell (p := ⟨w.heap.size + 1, 0, none⟩) (by show _ ≤ _ + 1; omega) _⟩
    | true =>
      obtain ⟨e, hE, hq⟩ := Option.bind_eq_some_iff.mp (show ((cutE l0_0 a1 a2).bind fun e => (if e = 0 then (tree_Own.f k l0_0).bind fun u => (cutD u a1 a2 a3).bind fun r => some (r, 0) else tree_bad.f k l0_0 e)) = some (r1, r2) from HH.out)
      have HQ := Aside0.mk hq
      obtain ⟨e0, hd, hE⟩ := Option.bind_eq_some_iff.mp hE
      have HE := Aside0.mk (Option.some.inj hE)
      have HD := Aside0.mk hd
      clear HH hq hE hd
      go_upto_block 0 with (first | (go_at_call 46; refine (tree_file.calls A0_0 c0_0 l0_0 a1 e0 _ (Kd.C_below HR.out (below_step HW.out HB.out)) HC.out HD.out).mono ?_; rintro e' w1 ⟨rfl, hb⟩; have HB1 := Aside0.mk (below_step HB.out hb); have hct1 := treeW_cell HB1.out; clear hb))
      clear HB hct
      go_cut [10] (fun v10 wc => v10 = .int .i64 e ∧ Aside0 (Below (treeW w A0_0 l0_0.length c0_0).heap.size (treeW w A0_0 l0_0.length c0_0) wc))
      case first =>
        clear HQ
        have hE := HE.out
        by_cases y1 : e0 = 0
        · have Y1 : (e0 != 0) = false := by simpa using y1
          rw [if_pos y1] at hE
          clear HE
          by_cases y2 : a2 < 0
          · have Y2 : decide (a2 < 0) = true := decide_eq_true y2
            rw [if_pos y2] at hE
            subst hE
            clear y1 y2
            go_wp2
            go_meet
            case rel => exact ⟨rfl, HB1⟩
          · have Y2 : decide (a2 < 0) = false := decide_eq_false y2
            rw [if_neg y2] at hE
            by_cases y3 : 16384 < a2
            · have Y3 : decide (16384 < a2) = true := decide_eq_true y3
              rw [if_pos y3] at hE
              subst hE
              clear y1 y2 y3
              go_wp2
              go_meet
              case rel => exact ⟨rfl, HB1⟩
            · have Y3 : decide (16384 < a2) = false := decide_eq_false y3
              rw [if_neg y3] at hE
              subst hE
              have Y4 := Aside0.mk y1
              clear y1 y2 y3
              go_wp2
              go_meet
              case rel => exact ⟨by rw [Y4.out], HB1⟩
        · have Y1 : (e0 != 0) = true := by simpa using y1
          rw [if_neg y1] at hE
          subst hE
          clear HE y1
          go_wp2
          go_meet
          case rel => exact ⟨rfl, HB1⟩
      case rest =>
        clear HE HD hct1 HB1
        obtain ⟨rfl, HB⟩ := hcut
        have hct := treeW_cell HB.out
        by_cases z1 : e = 0
        · have Z1 : (e != 0) = false := by simpa using z1
          obtain rfl := z1
          have hq := HQ.out
          rw [if_pos rfl] at hq
          obtain ⟨u, hu, hq⟩ := Option.bind_eq_some_iff.mp hq
          obtain ⟨r, hr, hq⟩ := Option.bind_eq_some_iff.mp hq
          injection (Option.some.inj hq) with hq1 hq2
          subst hq1; subst hq2
          unfold cutD at hr
          split at hr
          · rename_i hg1
            have HADD := Aside0.mk (Option.some.inj hr)
            have HU := Aside0.mk hu
            have HG1 := Aside0.mk hg1
            have HSZ : Aside0 (w.heap.size + 2 ≤ wc.heap.size) := ⟨by have := HB.out.size; have h2 : (treeW w A0_0 l0_0.length c0_0).heap.size = w.heap.size + 1 + 1 := (by show ((w.alloc _).alloc _).heap.size = _; rw [World.size_alloc, World.size_alloc]); omega⟩
            have p0 := eq_true hg1.1
            have p1 := eq_true hg1.2.1
            have hpos : 0 < u.length := by omega
            clear HQ hq hu hr hg1
            go_wp2_with (first | (go_at_call 42; refine (tree_Own.calls k A0_0 c0_0 l0_0 u _ (Kd.C_below HR.out (below_step HW.out HB.out)) HC.out HU.out).mono ?_; rintro e' w1 ⟨v, rfl, hS, hb⟩; obtain ⟨g, vc, rfl, hgN, hgl, _⟩ := Kd.S_form hS hpos; have HB1 := below_step HB.out hb; have hK := treeW_blk HB1; have hX := boxed hK.1 hK.2 (below_step HW.out HB1) (Kd.S_lower (Kd.S_mono (ok' := (fun k => k ≠ w.heap.size ∧ k ≠ w.heap.size + 1)) (Kd.S_bound hS) (fun k hk => ⟨by have := HSZ.out; have := hk.2.1; omega, by have := HSZ.out; have := hk.2.1; omega⟩)) (below_step HW.out HB.out).size); have hct1 := treeW_cell HB1; have hf1 := blk_frozen hK.1 0; have HK6 := Aside0.mk hX.1; have HK12 := Aside0.mk hX.2.1; have HS1 := Aside0.mk hX.2.2.1; have HB2 := Aside0.mk hX.2.2.2; have hct2 := (blk_cell HK6.out 0).trans rfl; have hf2 := blk_frozen HK6.out 0; clear hS hb hX HB1 hK; have hbs := HB2.out.size; obtain ⟨dA, dm, hdc, hdm, hdC, hokg, hgl2, hbg, hda⟩ := data_anew HS1.out a1 HG1.out.1 HG1.out.2.1 hbs (fun q hq => ⟨by have := blk_lt HK12.out; omega, by have := blk_lt HK12.out; omega⟩); have HDA := Aside0.mk hda; have HDC := Aside0.mk hdC; have HDM := Aside0.mk hdm; have HGB := Aside0.mk hbg; have HOG := Aside0.mk hokg; clear hda hdC hdm hbg hokg hgl2 hbs))
            have hsz : tree_sized.f (rd_T45 u a1).f1 a2 = some (sizedL (rd_T45 u a1).f1 a2.toNat) := by
              unfold tree_sized.f
              rw [if_pos HG1.out.2.2.1, if_pos (by have := HG1.out.2.2.2; omega)]
            have HZ := Aside0.mk hsz
            clear hsz
            refine start_ (n := 14) (S := fun w' => w'.cell? ⟨w.heap.size, 0, none⟩ = some (.slice (some ⟨g, 0, none⟩) u.length vc) ∧ w'.cell? ⟨g, a1.toNat * 6 + 1, none⟩ = some (.slice dA (rd_T45 u a1).f1.length dm)) (ds := [13]) #[false, false, false, false, false, false, false, false, false, false, false, false, false, false] (by kernel_rfl) rfl rfl ⟨hct2, hdc⟩ (fun hHeld => ?_)
            refine pure_ (i := 0) (N := some 46) (v := ?_) (a' := ?_) #[true, false, false, false, false, false, false, false, false, false, false, false, false, false] rfl rfl (by kernel_rfl) (fun _ _ _ h => h) (Or.inl ⟨by rfl, ?_⟩) ?_ ?_
            rotate_left
            · intro w'
              go_simp
              with_reducible rfl
            rotate_left
            · simp only [Act.put, List.setIfInBounds_toArray, List.set_cons_zero, List.set_cons_succ, i64_w, i32_w]
              rfl
            refine pure_ (i := 2) (N := some 48) (v := ?_) (a' := ?_) #[true, false, true, false, false, false, false, false, false, false, false, false, false, false] rfl rfl (by kernel_rfl) (fun _ _ _ h => h) (Or.inl ⟨by rfl, ?_⟩) ?_ ?_
            rotate_left
            · intro w'
              go_simp
              with_reducible rfl
            rotate_left
            · simp only [Act.put, List.setIfInBounds_toArray, List.set_cons_zero, List.set_cons_succ, i64_w, i32_w]
              rfl
            refine pure_ (i := 3) (N := some 49) (v := ?_) (a' := ?_) #[true, false, true, true, false, false, false, false, false, false, false, false, false, false] rfl rfl (by kernel_rfl) (fun _ _ _ h => h) (Or.inl ⟨by rfl, ?_⟩) ?_ ?_
            rotate_left
            · intro w'
              go_simp
              with_reducible rfl
            rotate_left
            · simp only [Act.put, List.setIfInBounds_toArray, List.set_cons_zero, List.set_cons_succ, i64_w, i32_w]
              rfl
            refine pure_ (i := 5) (N := some 51) (v := ?_) (a' := ?_) #[true, false, true, true, false, true, false, false, false, false, false, false, false, false] rfl rfl (by kernel_rfl) (fun _ _ _ h => h) (Or.inl ⟨by rfl, ?_⟩) ?_ ?_
            rotate_left
            · intro w'
              go_simp
              with_reducible rfl
            rotate_left
            · simp only [Act.put, List.setIfInBounds_toArray, List.set_cons_zero, List.set_cons_succ, i64_w, i32_w]
              rfl
            refine pure_ (i := 9) (N := some 55) (v := ?_) (a' := ?_) #[true, false, true, true, false, true, false, false, false, true, false, false, false, false] rfl rfl (by kernel_rfl) (fun _ _ _ h => h) (Or.inl ⟨by rfl, ?_⟩) ?_ ?_
            rotate_left
            · intro w'
              go_simp
              with_reducible rfl
            rotate_left
            · simp only [Act.put, List.setIfInBounds_toArray, List.set_cons_zero, List.set_cons_succ, i64_w, i32_w]
              rfl
            refine take_ (i := 1) (N := some 47) (v := ?_) (a' := ?_) #[true, true, true, true, false, true, false, false, false, true, false, false, false, false] rfl rfl (by kernel_rfl) (fun _ _ _ h => h) (Or.inl ⟨by rfl, ?_⟩) hHeld ?_ ?_
            rotate_left
            · rintro w' ⟨s0, s1⟩
              go_simp
              with_reducible rfl
            rotate_left
            · simp only [Act.put, List.setIfInBounds_toArray, List.set_cons_zero, List.set_cons_succ, i64_w, i32_w]
              rfl
            refine take_ (i := 4) (N := some 50) (v := ?_) (a' := ?_) #[true, true, true, true, true, true, false, false, false, true, false, false, false, false] rfl rfl (by kernel_rfl) (fun _ _ _ h => h) (Or.inl ⟨by rfl, ?_⟩) hHeld ?_ ?_
            rotate_left
            · rintro w' ⟨s0, s1⟩
              go_simp
              with_reducible rfl
            rotate_left
            · simp only [Act.put, List.setIfInBounds_toArray, List.set_cons_zero, List.set_cons_succ, i64_w, i32_w]
              rfl
            refine pure_ (i := 6) (N := some 52) (v := ?_) (a' := ?_) #[true, true, true, true, true, true, true, false, false, true, false, false, false, false] rfl rfl (by kernel_rfl) (fun _ _ _ h => h) (Or.inl ⟨by rfl, ?_⟩) ?_ ?_
            rotate_left
            · intro w'
              go_simp
              with_reducible rfl
            rotate_left
            · simp only [Act.put, List.setIfInBounds_toArray, List.set_cons_zero, List.set_cons_succ, i64_w, i32_w]
              rfl
            refine pure_ (i := 7) (N := some 53) (v := ?_) (a' := ?_) #[true, true, true, true, true, true, true, true, false, true, false, false, false, false] rfl rfl (by kernel_rfl) (fun _ _ _ h => h) (Or.inl ⟨by rfl, ?_⟩) ?_ ?_
            rotate_left
            · intro w'
              go_simp
              with_reducible rfl
            rotate_left
            · simp only [Act.put, List.setIfInBounds_toArray, List.set_cons_zero, List.set_cons_succ, i64_w, i32_w]
              rfl
            refine take_ (i := 8) (N := some 54) (v := ?_) (a' := ?_) #[true, true, true, true, true, true, true, true, true, true, false, false, false, false] rfl rfl (by kernel_rfl) (fun _ _ _ h => h) (Or.inl ⟨by rfl, ?_⟩) hHeld ?_ ?_
            rotate_left
            · rintro w' ⟨s0, s1⟩
              go_simp
              with_reducible rfl
            rotate_left
            · simp only [Act.put, List.setIfInBounds_toArray, List.set_cons_zero, List.set_cons_succ, i64_w, i32_w]
              rfl
            refine one_ (i := 10) (N := some 56) #[true, true, true, true, true, true, true, true, true, true, true, false, false, false] rfl rfl (by kernel_rfl) (by decide) (fun K hK => ?_)
            refine goes_ Try.func47 (by kernel_rfl) rfl #[.slice dA (rd_T45 u a1).f1.length dm, .int .i64 a2] (by rfl) rfl rfl (by simp only [List.map_toArray, List.map_cons, List.map_nil]; rfl) ?_
            with_reducible refine (tree_sized.calls dA dm _ a2 _ _ (Kd.C_below HDC.out (by repeat (first | exact Below.refl _ _ | apply below_drew | apply pw_below_drewN | apply below_drew1))) HDM.out HZ.out).mono ?_
            rintro e' w3 ⟨v, rfl, hR3, hb3⟩
            obtain ⟨A3, m3, c3, rfl⟩ := slice_any hR3
            have hb4 := below_step (below_drew (Below.refl _ _)) hb3
            obtain ⟨hfg, ⟨u1, hu1⟩, ⟨u5, hu5⟩, hfg5, _, hda⟩ := HDA.out w3 _ _ hb4 hR3
            have HFIN := Aside0.mk hda
            have HK6b := Aside0.mk (blk_below HK6.out hb4)
            have HK12b := Aside0.mk (blk_below HK12.out hb4)
            have HB5 := Aside0.mk (below_step HB2.out hb4)
            have hct3 := (blk_cell HK6b.out 0).trans rfl
            have hdc3 := (hb4.cell (World.block_lt_of_cell? _ _ hdc)).trans hdc
            have HK6c := Aside0.mk (fun u' : Value => blk_far HK6b.out (p := ⟨g, a1.toNat * 6 + 1, none⟩) (fun e => HOG.out.1 e.symm) u')
            have HK12c := Aside0.mk (fun u' : Value => blk_far HK12b.out (p := ⟨g, a1.toNat * 6 + 1, none⟩) (fun e => HOG.out.2 e.symm) u')
            have HK6d := Aside0.mk (fun u' u2 : Value => blk_far (HK6c.out u') (p := ⟨g, a1.toNat * 6 + 5, none⟩) (fun e => HOG.out.1 e.symm) u2)
            have HK12d := Aside0.mk (fun u' u2 : Value => blk_far (HK12c.out u') (p := ⟨g, a1.toNat * 6 + 5, none⟩) (fun e => HOG.out.2 e.symm) u2)
            have hct4 := fun u' => (blk_cell (HK6c.out u') 0).trans rfl
            have hct5 := fun u' u2 => (blk_cell (HK6d.out u' u2) 0).trans rfl
            have hct12 := fun u' u2 => (blk_cell (HK12d.out u' u2) 0).trans rfl
            have hf12 := fun u' u2 => blk_frozen (HK12d.out u' u2) 0
            clear hR3 hb3 hb4 hda
            refine ⟨_, rfl, ?_⟩
            refine hK.out _ _ ⟨hct3, hdc3⟩ (fun hHeld => ?_)
            clear hK K
            refine norm_ (a' := ?_) ?_ ?_
            rotate_left
            · show Act.put _ (some 56) _ = _
              simp only [Act.put, List.setIfInBounds_toArray, List.set_cons_zero, List.set_cons_succ, i64_w, i32_w]
              rfl
            refine pure_ (i := 11) (N := some 57) (v := ?_) (a' := ?_) #[true, true, true, true, true, true, true, true, true, true, true, true, false, false] rfl rfl (by kernel_rfl) (fun _ _ _ h => h) (Or.inl ⟨by rfl, ?_⟩) ?_ ?_
            rotate_left
            · intro w'
              go_simp
              with_reducible rfl
            rotate_left
            · simp only [Act.put, List.setIfInBounds_toArray, List.set_cons_zero, List.set_cons_succ, i64_w, i32_w]
              rfl
            refine pure_ (i := 12) (N := some 58) (v := ?_) (a' := ?_) #[true, true, true, true, true, true, true, true, true, true, true, true, true, false] rfl rfl (by kernel_rfl) (fun _ _ _ h => h) (Or.inl ⟨by rfl, ?_⟩) ?_ ?_
            rotate_left
            · intro w'
              go_simp
              with_reducible rfl
            rotate_left
            · simp only [Act.put, List.setIfInBounds_toArray, List.set_cons_zero, List.set_cons_succ, i64_w, i32_w]
              rfl
            refine last_ (i := 13) (N := none) #[true, true, true, true, true, true, true, true, true, true, true, true, true, true] rfl rfl (by kernel_rfl) (by decide) (fun K hK => ?_)
            refine skip_ (w1 := ?_) (by rfl) rfl ?_ ?_
            rotate_left
            · go_simp
              rfl
            refine hK.out _ _ ?_
            clear hK K
            refine done_ (by kernel_rfl) ?_
            go_wp2
            refine bodyPost_ret (results_ct rfl _ _ (w.heap.size + 1) 24 #[.slice (some ⟨g, 0, none⟩) u.length vc] (0, 0) _ rfl (blk_put (HK12d.out _ _) 0 _ rfl) Try.underlying24 rfl (by kernel_rfl)) rfl ?_
            refine ⟨_, rfl, ?_, ((HB5.out.setCell HGB.out _).setCell HGB.out _).setCell (p := ⟨w.heap.size + 1, 0, none⟩) (by show _ ≤ _ + 1; omega) _⟩
            rw [← HADD.out]
            exact Kd.S_mono (Kd.S_set (HFIN.out _) (HK12d.out _ _) (by decide) 0 _) (fun _ _ => trivial)
          · cases hr
        · have Z1 : (e != 0) = true := by simpa using z1
          have hbad := HQ.out
          rw [if_neg z1] at hbad
          have HBAD := Aside0.mk hbad
          clear hbad
          clear z1
          go_wp2_with (first | (go_at_call 41; refine (tree_bad.calls k A0_0 c0_0 l0_0 e r1 r2 _ (Kd.C_below HR.out (below_step HW.out HB.out)) HC.out HBAD.out).mono ?_; rintro e' w1 ⟨v, rfl, hS, hb⟩; obtain ⟨vA, vc, rfl⟩ := Kd.S_slice hS; have HS1 := Aside0.mk hS; have HB1 := Aside0.mk (below_step HB.out hb); have HK := Aside0.mk (treeW_blk HB1.out); have hct1 := (blk_cell HK.out.2 0).trans rfl; have hf1 := blk_frozen HK.out.2 0; clear hS hb))
          refine bodyPost_ret (results_ct rfl _ _ (w.heap.size + 1) 24 #[.slice vA r1.length vc] (0, 0) _ rfl (blk_put HK.out.2 0 _ rfl) Try.underlying24 rfl (by kernel_rfl)) rfl ?_
          exact ⟨_, rfl, Kd.S_set (Kd.S_lower HS1.out (below_step HW.out HB.out).size) HK.out.2 (by decide) 0 _, (below_step HW.out HB1.out).setCell (p := ⟨w.heap.size + 1, 0, none⟩) (by show _ ≤ _ + 1; omega) _⟩

end Go.Proofs.Ytjghephnjkffcaa.PCk

namespace Go.Proofs.Ytjghephnjkffcaa.PCk
open Go.RowKit Go.Proofs.YtjghephnjkffcaaW.PrintWords Go.Proofs.YtjghephnjkffcaaW.PrintLast Go.Proofs.YtjghephnjkffcaaW.PrintMore
attribute [local go_sem] max2_int min2_int max_two min_two max_three min_three max_four min_four
set_option linter.unusedVariables false
set_option linter.unusedSimpArgs false
/-! ### What Own, bad, may of the program's tree tell. -/
theorem own_l0 (l : List S45) (hm : l.length < 1599289640401) (hf : ∀ x ∈ l, FitsN x) : ∀ (d i : Nat), i + d = l.length → Ev (fun k => tree_Own.l0 k l (l.length : Int) (i : Int) (l.take i)) l
  | 0, i, h => Ev.step (f := fun _ => some l) (fun k => by rw [tree_Own.l0, if_neg (by omega), List.take_of_length_le (by omega)]) (Ev.now l)
  | d + 1, i, h => by
    have hi : i < l.length := by omega
    have hx : FitsN (rd_T45 l (i : Int)) := by rw [rdN_get l i hi]; exact hf _ (List.getElem_mem _)
    refine Ev.step (fun k => ?_) (own_l0 l hm hf d (i + 1) (by omega))
    rw [tree_Own.l0, if_pos (by omega), if_pos (by omega), if_pos (by omega), if_pos (by have := hx.1; simpa using this), if_pos (by have := hx.2; simpa using this), if_pos (by rw [List.length_take]; omega), up64 (by omega), rdN_get l i hi]
    show tree_Own.l0 k l _ _ (l.take i ++ [l[i]]) = _
    rw [take_next l i hi]
theorem own_ev (l : List S45) (hm : l.length < 1599289640401) (hf : ∀ x ∈ l, FitsN x) : Ev (fun k => tree_Own.f k l) l := own_l0 l hm hf l.length 0 (by omega)
theorem mayN_ev {l : List S45} {m : Bool} (h : Ev (fun k => tree_May.f k l) m) (ns : List Int) : Ev (fun k => tree_may.f k l ns) (m && ns.all fun n => hasB l n) := by
  unfold tree_may.f
  refine Ev.bind (f := fun _ t => if t = true then some (ns.all fun n => hasB l n) else some false) h ?_
  cases m with
  | true => exact Ev.congr (fun _ => if_pos rfl) (by simpa using Ev.now _)
  | false => exact Ev.congr (fun _ => if_neg (by simp)) (Ev.now _)
theorem bad_ev {l : List S45} (hl : l.length < 1599289640401) (hf : ∀ x ∈ l, FitsN x) (e : Int) (h : e = 100 → Ev (fun k => tree_May.f k l) true) : Ev (fun k => tree_bad.f k l e) (l, e) := by
  have ho := own_ev l hl hf
  unfold tree_bad.f
  by_cases h1 : e = 100
  · refine Ev.congr (fun k => if_pos h1) (Ev.bind (f := fun k t => if t = true then ((tree_Own.f k l).bind fun t => some (t, e)) else some ([], e)) (h h1) (Ev.congr (fun k => if_pos rfl) ?_))
    exact Ev.bind (f := fun _ t => some (t, e)) ho (Ev.now _)
  · exact Ev.congr (fun k => if_neg h1) (Ev.bind (f := fun _ t => some (t, e)) ho (Ev.now _))
theorem hasB_nat (l : List S45) (n : Nat) (h : n < l.length) : hasB l (n : Int) = ((rd_T45 l (n : Int)).f0 != 0) := by
  unfold hasB; rw [decide_eq_true (show 0 ≤ (n : Int) by omega), decide_eq_true (show (n : Int) < (l.length : Int) by omega)]; simp
theorem headB_parts {l : List S45} (h : Ev (fun k => tree_May.f k l) true) : headB l = true := by
  obtain ⟨K, hK⟩ := h
  have h1 : tree_May.f K l = some true := hK K (Nat.le_refl _)
  unfold tree_May.f at h1
  by_cases hh : headB l = true
  · exact hh
  · rw [if_neg hh] at h1; cases h1

end Go.Proofs.Ytjghephnjkffcaa.PCk

namespace Go.Proofs.Ytjghephnjkffcaa.PCk
open Go.RowKit Go.Proofs.YtjghephnjkffcaaW.PrintWords Go.Proofs.YtjghephnjkffcaaW.PrintLast Go.Proofs.YtjghephnjkffcaaW.PrintMore
attribute [local go_sem] max2_int min2_int max_two min_two max_three min_three max_four min_four
set_option linter.unusedVariables false
set_option linter.unusedSimpArgs false
-- IMPORT: Derived.Test.@N@DTreebase
-- IMPORT: Derived.Test.@N@DCommon
/-! ### tree.May looks at kinds, names and links alone (and at what each node is by itself). -/
structure SimN (x y : S45) : Prop where
  k : x.f0 = y.f0
  n : x.f2 = y.f2
  l : x.f4 = y.f4
structure Sim (l l' : List S45) : Prop where
  len : l.length = l'.length
  at_ : ∀ i : Int, SimN (rd_T45 l i) (rd_T45 l' i)
theorem Sim.symm {l l' : List S45} (h : Sim l l') : Sim l' l := ⟨h.len.symm, fun i => ⟨(h.at_ i).k.symm, (h.at_ i).n.symm, (h.at_ i).l.symm⟩⟩
theorem Sim.reach {l l' : List S45} (h : Sim l l') {i : Nat} (hr : Reach l i) : Reach l' i := by
  induction hr with
  | root => exact .root
  | step _ hn hx hd ih => exact .step ih (by rw [← h.len]; exact hn) (by rw [← (h.at_ _).n]; exact hx) (by rw [← (h.at_ _).k]; exact hd)
theorem Sim.bumps_ {l l' : List S45} (h : Sim l l') : ∀ (d i : Nat) (c : List Int), bumps l d i c = bumps l' d i c
  | 0, _, _ => rfl
  | d + 1, i, c => by show bumps l d (i + 1) _ = bumps l' d (i + 1) _; rw [(h.at_ _).n]; exact Sim.bumps_ h d (i + 1) _
theorem Sim.nameIn {l l' : List S45} (h : Sim l l') {x : S66} (hx : NameIn l x) : NameIn l' x := ⟨hx.1, by rw [← h.len]; exact hx.2.1, by rw [← (h.at_ _).k]; exact hx.2.2⟩
theorem Sim.head {l l' : List S45} (h : Sim l l') : headB l = headB l' := by
  unfold headB; rw [h.len, (h.at_ _).k, (h.at_ _).k, (h.at_ _).l]
theorem nodes_iff (l : List S45) (hf : Fits l) : nodesB l l.length = true ↔ ∀ j, j < l.length → NodeP (rd_T45 l (j : Int)) ∧ ∀ x ∈ (rd_T45 l (j : Int)).f2, NameIn l x := by
  unfold nodesB
  rw [List.all_eq_true]
  constructor
  · intro h j hj
    have h1 := (tree_node_ok l _ (fits_at hf j hj).1).1 (h j (List.mem_range.2 hj))
    refine ⟨h1.1, ?_⟩
    by_cases hk : (rd_T45 l (j : Int)).f0 = 2
    · exact names_mem.2 (h1.2.2 hk)
    · have : (rd_T45 l (j : Int)).f2 = [] := by
        rcases h1.1 with h | h | h | h
        · rw [h.2]; rfl
        · exact h.2.2.2.1
        · exact absurd h.1 hk
        · exact h.2.2.2.2.2.2
      rw [this]; simp
  · intro h j hj
    have hj := List.mem_range.1 hj
    exact (tree_node_ok l _ (fits_at hf j hj).1).2 ⟨(h j hj).1, fun _ => trivial, fun _ => names_mem.1 (h j hj).2⟩
/-- What tree.May tells of a tree whose head and nodes may be. -/
theorem may_last (l : List S45) (hf : Fits l) (hh : headB l = true) (hA : ∀ j, j < l.length → NodeP (rd_T45 l (j : Int)) ∧ ∀ x ∈ (rd_T45 l (j : Int)).f2, NameIn l x) :
    ∃ R, (∀ i, on R i = true ↔ Reach l i) ∧ Ev (fun k => tree_May.f k l) (lastB l (bumps l l.length 0 (List.replicate l.length 0)) R l.length) := by
  obtain ⟨h0, hl, hk0, hl0⟩ := head_parts hh
  have hr : InRange l := fun n hn x hx => by have := (hA n hn).2 x hx; exact ⟨by have := this.1; omega, this.2.1⟩
  obtain ⟨R, hR, hRl, hRs⟩ := reached_tree l h0 hl hk0 hr
  have hRe : Ev (fun k => tree_reached.f k l) R := Ev.of (fun k => tree_reached.mono _ _) hR
  have hLe := links_ev l hl hf hr
  exact ⟨R, hRs, Ev.congr (fun k => by unfold tree_May.f; rw [if_pos hh, if_pos ((nodes_iff l hf).2 hA)]) (Ev.bind (f := fun k L => (tree_reached.f k l).bind fun R => if L.length = l.length ∧ R.length = l.length then some (lastB l L R l.length) else none) hLe (Ev.bind (f := fun _ R => if (bumps l l.length 0 (List.replicate l.length 0)).length = l.length ∧ R.length = l.length then some (lastB l (bumps l l.length 0 (List.replicate l.length 0)) R l.length) else none) hRe (Ev.congr (fun _ => if_pos ⟨by rw [bumps_len, List.length_replicate], hRl⟩) (Ev.now _))))⟩
theorem may_nodes {l : List S45} (hf : Fits l) (h : Ev (fun k => tree_May.f k l) true) : ∀ j, j < l.length → NodeP (rd_T45 l (j : Int)) ∧ ∀ x ∈ (rd_T45 l (j : Int)).f2, NameIn l x := by
  refine (nodes_iff l hf).1 ?_
  have hh := headB_parts h
  obtain ⟨K, hK⟩ := h
  have h1 : tree_May.f K l = some true := hK K (Nat.le_refl _)
  unfold tree_May.f at h1
  rw [if_pos hh] at h1
  by_cases hn : nodesB l l.length = true
  · exact hn
  · rw [if_neg hn] at h1; cases h1
/-- A tree that is like one that may be, and whose nodes each may be, may be. -/
theorem may_sim {l l' : List S45} (hf : Fits l) (hf' : Fits l') (hs : Sim l l') (h : Ev (fun k => tree_May.f k l) true) (hN : ∀ j, j < l.length → NodeP (rd_T45 l' (j : Int))) : Ev (fun k => tree_May.f k l') true := by
  have hh := headB_parts h
  have hA := may_nodes hf h
  obtain ⟨R, hR, hE⟩ := may_last l hf hh hA
  have hA' : ∀ j, j < l'.length → NodeP (rd_T45 l' (j : Int)) ∧ ∀ x ∈ (rd_T45 l' (j : Int)).f2, NameIn l' x := fun j hj => by
    rw [← hs.len] at hj
    exact ⟨hN j hj, fun x hx => hs.nameIn ((hA j hj).2 x (by rw [(hs.at_ _).n]; exact hx))⟩
  obtain ⟨R', hR', hE'⟩ := may_last l' hf' (hs.head ▸ hh) hA'
  have hlt : lastB l (bumps l l.length 0 (List.replicate l.length 0)) R l.length = true := Ev.one hE h
  have e : lastB l' (bumps l' l'.length 0 (List.replicate l'.length 0)) R' l'.length = true := by
    rw [← hlt, ← hs.len, ← hs.bumps_]
    unfold lastB
    congr 1
    funext i
    have hRR : rdOf false R' (i : Int) = rdOf false R (i : Int) := Bool.eq_iff_iff.2 ((hR' i).trans (Iff.trans ⟨hs.symm.reach, hs.reach⟩ (hR i).symm))
    unfold nodeBad
    rw [hRR, (hs.at_ _).k, (hs.at_ _).n, (hs.at_ _).l]
  rw [← e]; exact hE'
/-- A file's data and time written anew. -/
theorem may_data {l : List S45} (hf : Fits l) (h : Ev (fun k => tree_May.f k l) true) (n : Nat) (hn : n < l.length) (hk : (rd_T45 l (n : Int)).f0 = 1) (d : List Int) (hd : d.length ≤ 16384) (t : Int) (ht : TimeP t) :
    Fits (l.set n { rd_T45 l (n : Int) with f1 := d, f5 := t }) ∧ Ev (fun k => tree_May.f k (l.set n { rd_T45 l (n : Int) with f1 := d, f5 := t })) true := by
  have hx := fits_at hf n hn
  have hrd : ∀ j : Nat, rd_T45 (l.set n { rd_T45 l (n : Int) with f1 := d, f5 := t }) (j : Int) = if n = j then { rd_T45 l (n : Int) with f1 := d, f5 := t } else rd_T45 l (j : Int) := fun j => by
    show (l.set n _).getD (j : Int).toNat _ = if n = j then _ else l.getD (j : Int).toNat _
    rw [Int.toNat_natCast, List.getD_eq_getElem?_getD, List.getD_eq_getElem?_getD, List.getElem?_set]
    by_cases e : n = j
    · subst e; simp [hn]
    · rw [if_neg e, if_neg e]
  have hff : Fits (l.set n { rd_T45 l (n : Int) with f1 := d, f5 := t }) := fun x hm => by
    rcases List.mem_or_eq_of_mem_set hm with h | h
    · exact hf x h
    · subst h; exact ⟨⟨by show d.length < _; omega, hx.1.2⟩, hx.2.1, hx.2.2⟩
  refine ⟨hff, may_sim hf hff ⟨by simp, fun i => ?_⟩ h fun j hj => ?_⟩
  · have hi : ∀ l : List S45, rd_T45 l i = rd_T45 l (i.toNat : Int) := fun l => by unfold rd_T45; rw [Int.toNat_natCast]
    rw [hi l, hi (l.set _ _), hrd]
    by_cases e : n = i.toNat
    · rw [if_pos e, ← e]; exact ⟨rfl, rfl, rfl⟩
    · rw [if_neg e]; exact ⟨rfl, rfl, rfl⟩
  · rw [hrd]
    by_cases e : n = j
    · rw [if_pos e]
      rcases (may_nodes hf h n hn).1 with q | q | q | q
      · rw [hk] at q; exact absurd q.1 (by decide)
      · exact .inr (.inl ⟨q.1, ht, hd, q.2.2.2⟩)
      · rw [hk] at q; exact absurd q.1 (by decide)
      · rw [hk] at q; exact absurd q.1 (by decide)
    · rw [if_neg e]; exact (may_nodes hf h j hj).1

end Go.Proofs.Ytjghephnjkffcaa.PCk

namespace Go.Proofs.Ytjghephnjkffcaa.PCk
open Go.RowKit Go.Proofs.YtjghephnjkffcaaW.PrintWords Go.Proofs.YtjghephnjkffcaaW.PrintLast Go.Proofs.YtjghephnjkffcaaW.PrintMore
attribute [local go_sem] max2_int min2_int max_two min_two max_three min_three max_four min_four
set_option linter.unusedVariables false
set_option linter.unusedSimpArgs false
-- FUNCTION: slices.Clone[[]byte,byte]
-- IMPORT: Derived.WalkSpells
def slices_Clone_byte_byte.f (l0 : List Int) : Option (List Int) := if l0.length < 140737488355328 then some l0 else none
set_option maxHeartbeats 1000000 in
set_option maxRecDepth 100000 in
theorem slices_Clone_byte_byte.calls (A0 : Option Addr) (c0 : Nat) (l0 : List Int) (r : List Int) (w : World) (hr0 : Kd.C (Kd.int .u8) w A0 l0.length l0) (hc0 : l0.length ≤ c0) (h : slices_Clone_byte_byte.f l0 = some r) :
    Calls Try.prog 48 #[.slice A0 l0.length c0] w fun e w' => ∃ v0_ : Value, e = .returned (v0_) ∧ Kd.R (Kd.int .u8) 5 w' w.heap.size (fun _ => True) v0_ r ∧ Below w.heap.size w w' := by
  unfold slices_Clone_byte_byte.f at h
  split at h
  · rename_i hlt
    obtain rfl := Option.some.inj h
    have HL := Aside0.mk hlt
    have HR := Aside0.mk hr0
    have HC := Aside0.mk hc0
    clear hlt hr0 hc0 h
    have h1 := fun (w : World) (a : Option Addr) (n c n' c' : Nat) => Lib.run_eql_slice_nil (P := Try.prog) w 36 5 a n c n' c' Try.underlying36
    have HN : Aside0 (A0 = none → l0 = []) := ⟨fun e => by
      by_cases hz : 0 < l0.length
      · obtain ⟨ad, h, _⟩ := HR.out.2.2 hz
        rw [e] at h; cases h
      · exact List.eq_nil_of_length_eq_zero (by omega)⟩
    go_enter Try.func48, Try.ntmps48
    cases A0 with
    | none =>
      obtain rfl := HN.out rfl
      go_wp2
      go_ret
      exact ⟨_, rfl, Kd.R_nil _ _ _ _ _, Below.refl _ _⟩
    | some ad =>
      go_wp2_with (first | (at_builtin; refine Kd.R_append_row (Value.int .u8) (0 : Int) (h1 := fun _ => rfl) (w0 := w) w.heap.size rfl (.tmp 5) (.tmp 6) 36 5 (.int .u8 0) 1 rfl Try.underlying36 info5 rfl (by decide) (.slice (some ⟨w.heap.size, 0, none⟩) 0 0) [] l0 (some ad) l0.length c0 (fun _ => True) rfl rfl (fun _ _ => trivial) ?ho ?hr ?hb ?hs ?hl ?_; (case hr => exact Kd.C_below HR.out (below_alloc (Below.refl _ _) _)); (case hb => exact below_alloc (Below.refl _ _) _); (case hs => simp); (case hl => have := HL.out; simp; omega); (case ho => exact Kd.R_of_own (own_lit w w.heap.size 5 .u8 [] (Nat.le_refl _) (by decide)) (fun _ _ => trivial)); intro v1 w1 hR hB hg hat))
      go_ret
      exact ⟨_, rfl, hR, hB⟩
  · cases h

end Go.Proofs.Ytjghephnjkffcaa.PCk

namespace Go.Proofs.Ytjghephnjkffcaa.PCk
open Go.RowKit Go.Proofs.YtjghephnjkffcaaW.PrintWords Go.Proofs.YtjghephnjkffcaaW.PrintLast Go.Proofs.YtjghephnjkffcaaW.PrintMore
attribute [local go_sem] max2_int min2_int max_two min_two max_three min_three max_four min_four
set_option linter.unusedVariables false
set_option linter.unusedSimpArgs false
-- FUNCTION: gangway/tree.Read
-- IMPORT: Derived.Test.@N@WOwn
def readL (b : List Int) (t n : Nat) : List Int := (b.drop (min t b.length)).take (min n (b.length - min t b.length))
def tree_Read.f (k : Nat) (l0_0 : List S45) (a1 : Int) (a2 : Int) (a3 : Int) : Option (List Int × Int) :=
  (tree_may.f k l0_0 [a1]).bind fun m => if m = true then (tree_file.f l0_0 a1).bind fun e => (if e = 0 then (if a2 < 0 then some ([], 28) else if a3 < 0 then some ([], 28) else if 0 ≤ a1 ∧ a1 < (l0_0.length : Int) ∧ (rd_T45 l0_0 a1).f1.length ≤ 1000000 then some (readL (rd_T45 l0_0 a1).f1 a2.toNat a3.toNat, 0) else none) else some ([], e)) else some ([], 100)
/-- 'xs[j:]', its parts under names of their own. -/
theorem cut_any (A : Option Addr) (c : Nat) (xs : List Int) (j : Nat) (hj : j ≤ xs.length) (hc : xs.length ≤ c) : ∃ (A' : Option Addr) (n' c' : Nat), (∀ W : World, (Instr.slice 36 (.slice A xs.length c) (some (.int .i64 (j : Int))) none none).run Try.prog W = .ok (.slice A' n' c') W) ∧ Aside0 (n' = xs.length - j) ∧ Aside0 (n' ≤ c') ∧ ∀ W, Kd.C (Kd.int .u8) W A xs.length xs → Kd.C (Kd.int .u8) W A' n' (xs.drop j) := by
  obtain ⟨i0, hi0, _, hsz, _⟩ := info_parts info5
  refine ⟨_, _, _, cut_from (P := Try.prog) 36 5 .i64 Try.underlying36 hi0 1 hsz A xs.length c (j : Int) (by omega) (by omega), ⟨by rw [Int.toNat_natCast]⟩, ⟨by rw [Int.toNat_natCast]; omega⟩, fun W h => ?_⟩
  have h2 := Kd.C_drop h hj hc
  rw [Int.toNat_natCast]
  rw [List.length_drop] at h2
  exact h2
theorem cut_up (A : Option Addr) (n c j : Nat) (hj : j ≤ n) (hc : n ≤ c) : ∀ W : World, (Instr.slice 36 (.slice A n c) none (some (.int .i64 (j : Int))) none).run Try.prog W = .ok (.slice A j c) W := by
  obtain ⟨i0, hi0, _, hsz, _⟩ := info_parts info5
  have h := cut_to (P := Try.prog) 36 5 .i64 Try.underlying36 hi0 A n c (j : Int) (by omega) (by omega) hc
  rw [Int.toNat_natCast] at h
  exact h
set_option maxHeartbeats 8000000 in
set_option maxRecDepth 100000 in
theorem tree_Read.calls (k : Nat) (A0_0 : Option Addr) (c0_0 : Nat) (l0_0 : List S45) (a1 : Int) (a2 : Int) (a3 : Int) (r1 : List Int) (r2 : Int) (w : World) (hr0_0 : Kd.C k45 w A0_0 l0_0.length l0_0) (hc0_0 : l0_0.length ≤ c0_0) (h : tree_Read.f k l0_0 a1 a2 a3 = some (r1, r2)) :
    Calls Try.prog 23 #[.agg #[.slice A0_0 l0_0.length c0_0], .int .i64 a1, .int .i64 a2, .int .i64 a3] w fun e w' => ∃ v0_ : Value, e = .returned (.tuple #[v0_, .int .i64 r2]) ∧ Kd.R (Kd.int .u8) 5 w' w.heap.size (fun _ => True) v0_ r1 ∧ Below w.heap.size w w' := by
  obtain ⟨m, hm, h⟩ := Option.bind_eq_some_iff.mp h
  have HR := Aside0.mk hr0_0
  have HC := Aside0.mk hc0_0
  have HM := Aside0.mk hm
  have hut := Try.underlying24
  have hun := Try.underlying45
  have hsi := Try.underlying88
  have HW := Aside0.mk (below_alloc (Below.refl w.heap.size w) (.cells #[.slice A0_0 l0_0.length c0_0] 24))
  have HD := Aside0.mk (Kd.R_reads' (R_of_blk (xs := [a1]) (k := .i64) (base := 0) (blk_new (w.alloc (.cells #[.slice A0_0 l0_0.length c0_0] 24)) (.cells #[.int .i64 a1] 3)) (Nat.zero_le _) (by simp))).2.2
  rw [World.size_alloc] at HD
  have HK := Aside0.mk (blk_alloc (blk_new w (.cells #[.slice A0_0 l0_0.length c0_0] 24)) (.cells #[.int .i64 a1] 3))
  clear hr0_0 hc0_0 hm
  cases m with
  | false =>
    have h1 : some (([] : List Int), (100 : Int)) = some (r1, r2) := h
    injection (Option.some.inj h1) with e1 e2
    subst e1; subst e2
    clear h h1
    go_enter Try.func23, Try.ntmps23
    go_wp2_with (first | (go_at_call 40; refine (tree_may.calls k _ c0_0 l0_0 (some ⟨w.heap.size + 1, 0, none⟩) 1 [a1] _ _ (Kd.C_below HR.out (by repeat (first | exact HW.out | apply below_alloc))) HC.out HD.out (by simp) HM.out).mono ?_; rintro e' w1 ⟨rfl, hb⟩; have HB := Aside0.mk (below_step (below_alloc HW.out _) hb); have hct := (blk_cell (blk_below HK.out hb) 0).trans rfl; have HK1 := Aside0.mk (blk_below HK.out hb); clear hb))
    go_ret2
    exact ⟨_, rfl, Kd.R_nil _ _ _ _ _, HB.out⟩
  | true =>
    obtain ⟨e, he, h⟩ := Option.bind_eq_some_iff.mp (show (tree_file.f l0_0 a1).bind _ = some (r1, r2) from h)
    have HE := Aside0.mk he
    clear he
    by_cases z1 : e = 0
    · rw [if_pos z1] at h
      have Z1 : (e != 0) = false := by simpa using z1
      by_cases z2 : a2 < 0
      · have Z2 : decide (a2 < 0) = true := decide_eq_true z2
        rw [if_pos z2] at h
        injection (Option.some.inj h) with e1 e2
        subst e1; subst e2
        clear h z1 z2
        go_enter Try.func23, Try.ntmps23
        go_wp2_with (first | (go_at_call 40; refine (tree_may.calls k _ c0_0 l0_0 (some ⟨w.heap.size + 1, 0, none⟩) 1 [a1] _ _ (Kd.C_below HR.out (by repeat (first | exact HW.out | apply below_alloc))) HC.out HD.out (by simp) HM.out).mono ?_; rintro e' w1 ⟨rfl, hb⟩; have HB := Aside0.mk (below_step (below_alloc HW.out _) hb); have hct := (blk_cell (blk_below HK.out hb) 0).trans rfl; have HK1 := Aside0.mk (blk_below HK.out hb); clear hb) | (go_at_call 46; refine (tree_file.calls _ c0_0 l0_0 a1 _ _ (Kd.C_below HR.out HB.out) HC.out HE.out).mono ?_; rintro e' w2 ⟨rfl, hb⟩; have HBn := Aside0.mk (below_step HB.out hb); have hct2 := (blk_cell (blk_below HK1.out hb) 0).trans rfl; clear HB hb; have HB := HBn; clear HBn; (try (have hdx := (HB.out.cell (World.block_lt_of_cell? _ _ HX1.out)).trans HX1.out))))
        go_ret2
        exact ⟨_, rfl, Kd.R_nil _ _ _ _ _, HB.out⟩
      · have Z2 : decide (a2 < 0) = false := decide_eq_false z2
        rw [if_neg z2] at h
        by_cases z3 : a3 < 0
        · have Z3 : decide (a3 < 0) = true := decide_eq_true z3
          rw [if_pos z3] at h
          injection (Option.some.inj h) with e1 e2
          subst e1; subst e2
          clear h z1 z2 z3
          go_enter Try.func23, Try.ntmps23
          go_wp2_with (first | (go_at_call 40; refine (tree_may.calls k _ c0_0 l0_0 (some ⟨w.heap.size + 1, 0, none⟩) 1 [a1] _ _ (Kd.C_below HR.out (by repeat (first | exact HW.out | apply below_alloc))) HC.out HD.out (by simp) HM.out).mono ?_; rintro e' w1 ⟨rfl, hb⟩; have HB := Aside0.mk (below_step (below_alloc HW.out _) hb); have hct := (blk_cell (blk_below HK.out hb) 0).trans rfl; have HK1 := Aside0.mk (blk_below HK.out hb); clear hb) | (go_at_call 46; refine (tree_file.calls _ c0_0 l0_0 a1 _ _ (Kd.C_below HR.out HB.out) HC.out HE.out).mono ?_; rintro e' w2 ⟨rfl, hb⟩; have HBn := Aside0.mk (below_step HB.out hb); have hct2 := (blk_cell (blk_below HK1.out hb) 0).trans rfl; clear HB hb; have HB := HBn; clear HBn; (try (have hdx := (HB.out.cell (World.block_lt_of_cell? _ _ HX1.out)).trans HX1.out))))
          go_ret2
          exact ⟨_, rfl, Kd.R_nil _ _ _ _ _, HB.out⟩
        · have Z3 : decide (a3 < 0) = false := decide_eq_false z3
          rw [if_neg z3] at h
          split at h
          · rename_i hg
            obtain ⟨g0, g1, g2⟩ := hg
            injection (Option.some.inj h) with e1 e2
            subst e2
            have HRES := Aside0.mk e1
            obtain ⟨t, rfl⟩ : ∃ t : Nat, a2 = (t : Int) := ⟨a2.toNat, by omega⟩
            obtain ⟨s, rfl⟩ : ∃ s : Nat, a3 = (s : Int) := ⟨a3.toNat, by omega⟩
            obtain ⟨na, A1, c1, A2, c2, rfl, hx0, hx1, hx2, hx3, hx4, hx5, hl1, hi1, hl2, hi2⟩ := at_T45 HR.out a1 g0 g1
            have HX1 := Aside0.mk hx1
            have HI1 := Aside0.mk hi1
            obtain ⟨M1, hM1⟩ : ∃ M1, M1 = min t (rd_T45 l0_0 a1).f1.length := ⟨_, rfl⟩
            have hM1l : M1 ≤ (rd_T45 l0_0 a1).f1.length := by rw [hM1]; exact Nat.min_le_right _ _
            obtain ⟨A', n', c', hrun, HN, HNC, hCd⟩ := cut_any A1 c1 (rd_T45 l0_0 a1).f1 M1 hM1l hl1
            have HCD := Aside0.mk hCd
            obtain ⟨M2, hM2⟩ : ∃ M2, M2 = min s n' := ⟨_, rfl⟩
            have hrun2 := cut_up A' n' c' M2 (by rw [hM2]; exact Nat.min_le_right _ _) HNC.out
            have HM2l := Aside0.mk (show M2 ≤ n' by rw [hM2]; exact Nat.min_le_right _ _)
            have HRV : Aside0 (readL (rd_T45 l0_0 a1).f1 t s = ((rd_T45 l0_0 a1).f1.drop M1).take M2) := ⟨by unfold readL; rw [hM2, HN.out, hM1]⟩
            have HLV : Aside0 ((((rd_T45 l0_0 a1).f1.drop M1).take M2).length = M2) := ⟨by rw [List.length_take, List.length_drop]; have := HN.out; have := HM2l.out; omega⟩
            have HCLN : Aside0 (∀ W : World, Below w.heap.size w W → Calls Try.prog 48 #[.slice A' M2 c'] W fun e w' => ∃ v0_ : Value, e = .returned v0_ ∧ Kd.R (Kd.int .u8) 5 w' W.heap.size (fun _ => True) v0_ (((rd_T45 l0_0 a1).f1.drop M1).take M2) ∧ Below W.heap.size W w') := ⟨fun W hB => by
              have h9 := HCD.out W (Kd.C_below HI1.out hB)
              have h10 : Kd.C (Kd.int .u8) W A' ((rd_T45 l0_0 a1).f1.drop M1).length ((rd_T45 l0_0 a1).f1.drop M1) := by rw [h9.1]; exact h9
              have hT := Kd.C_take (m := M2) h10 (by rw [h9.1]; exact HM2l.out)
              have hq := slices_Clone_byte_byte.calls A' c' _ (((rd_T45 l0_0 a1).f1.drop M1).take M2) W hT (by rw [HLV.out]; have := HM2l.out; have := HNC.out; omega) (by unfold slices_Clone_byte_byte.f; rw [if_pos (by rw [HLV.out]; have := HM2l.out; have := HN.out; omega)])
              rw [HLV.out] at hq
              exact hq⟩
            have hs1 : ((rd_T45 l0_0 a1).f1.length < t ∧ M1 = (rd_T45 l0_0 a1).f1.length) ∨ (¬ (rd_T45 l0_0 a1).f1.length < t ∧ M1 = t) := by rw [hM1]; omega
            have hs2 : (n' < s ∧ M2 = n') ∨ (¬ n' < s ∧ M2 = s) := by rw [hM2]; omega
            have p0 := eq_true g0
            have p1 := eq_true g1
            have hmax := hi1.2.1
            have hn9 : n' ≤ 9223372036854775807 := by have := HN.out; omega
            clear h z1 z2 z3 hx0 hx1 hx2 hx3 hx4 hx5 hl1 hi1 hl2 hi2 hM1 hM2 hCd e1 g0 g1
            rcases hs1 with ⟨x1, rfl⟩ | ⟨x1, rfl⟩ <;> rcases hs2 with ⟨x2, rfl⟩ | ⟨x2, rfl⟩
            all_goals
              go_enter Try.func23, Try.ntmps23
              go_wp2_with (first | (go_at_call 40; refine (tree_may.calls k _ c0_0 l0_0 (some ⟨w.heap.size + 1, 0, none⟩) 1 [a1] _ _ (Kd.C_below HR.out (by repeat (first | exact HW.out | apply below_alloc))) HC.out HD.out (by simp) HM.out).mono ?_; rintro e' w1 ⟨rfl, hb⟩; have HB := Aside0.mk (below_step (below_alloc HW.out _) hb); have hct := (blk_cell (blk_below HK.out hb) 0).trans rfl; have HK1 := Aside0.mk (blk_below HK.out hb); clear hb) | (go_at_call 46; refine (tree_file.calls _ c0_0 l0_0 a1 _ _ (Kd.C_below HR.out HB.out) HC.out HE.out).mono ?_; rintro e' w2 ⟨rfl, hb⟩; have HBn := Aside0.mk (below_step HB.out hb); have hct2 := (blk_cell (blk_below HK1.out hb) 0).trans rfl; clear HB hb; have HB := HBn; clear HBn; (try (have hdx := (HB.out.cell (World.block_lt_of_cell? _ _ HX1.out)).trans HX1.out))) | (go_at_call 48; have HB1 := HB; refine (HCLN.out _ HB.out).mono ?_; rintro e' w3 ⟨v, rfl, hR9, hb9⟩; have hRR := Aside0.mk hR9))
              go_ret2
              exact ⟨_, rfl, by rw [← HRES.out, Int.toNat_natCast, Int.toNat_natCast, HRV.out]; exact Kd.R_lower hRR.out HB1.out.size, below_step HB1.out hb9⟩
          · cases h
    · rw [if_neg z1] at h
      have Z1 : (e != 0) = true := by simpa using z1
      injection (Option.some.inj h) with e1 e2
      subst e1; subst e2
      clear h z1
      go_enter Try.func23, Try.ntmps23
      go_wp2_with (first | (go_at_call 40; refine (tree_may.calls k _ c0_0 l0_0 (some ⟨w.heap.size + 1, 0, none⟩) 1 [a1] _ _ (Kd.C_below HR.out (by repeat (first | exact HW.out | apply below_alloc))) HC.out HD.out (by simp) HM.out).mono ?_; rintro e' w1 ⟨rfl, hb⟩; have HB := Aside0.mk (below_step (below_alloc HW.out _) hb); have hct := (blk_cell (blk_below HK.out hb) 0).trans rfl; have HK1 := Aside0.mk (blk_below HK.out hb); clear hb) | (go_at_call 46; refine (tree_file.calls _ c0_0 l0_0 a1 _ _ (Kd.C_below HR.out HB.out) HC.out HE.out).mono ?_; rintro e' w2 ⟨rfl, hb⟩; have HBn := Aside0.mk (below_step HB.out hb); have hct2 := (blk_cell (blk_below HK1.out hb) 0).trans rfl; clear HB hb; have HB := HBn; clear HBn; (try (have hdx := (HB.out.cell (World.block_lt_of_cell? _ _ HX1.out)).trans HX1.out))))
      go_ret2
      exact ⟨_, rfl, Kd.R_nil _ _ _ _ _, HB.out⟩

end Go.Proofs.Ytjghephnjkffcaa.PCk
