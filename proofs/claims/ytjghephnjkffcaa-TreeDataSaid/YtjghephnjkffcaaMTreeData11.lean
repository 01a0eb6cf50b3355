/- Parts of one proof, merged by merge.py of this repo: walks over the given program and plain facts, used by the law of the file YtjghephnjkffcaaCTreeData. -/
import Derived.Test.YtjghephnjkffcaaMTreeData10
import Derived.Test.YtjghephnjkffcaaMTreeData4
import Derived.Test.YtjghephnjkffcaaMTreeData9
import Derived.Test.YtjghephnjkffcaaMTreeData2
import Derived.Deep.RegionHeld3
import Derived.Deep.DrawnRows
import Derived.Deep.CutBlock
import Derived.Test.YtjghephnjkffcaaMTreeData5
import Derived.Test.YtjghephnjkffcaaMTreeData6
import Derived.Test.YtjghephnjkffcaaMTreeData8
import Derived.WalkSpells
namespace Go.Proofs.Ytjghephnjkffcaa.PCk
open Go.RowKit Go.Proofs.YtjghephnjkffcaaW.PrintWords Go.Proofs.YtjghephnjkffcaaW.PrintLast Go.Proofs.YtjghephnjkffcaaW.PrintMore
attribute [local go_sem] max2_int min2_int max_two min_two max_three min_three max_four min_four
set_option linter.unusedVariables false
set_option linter.unusedSimpArgs false
-- FUNCTION: gangway/tree.Cut
-- IMPORT: Derived.Test.@N@WOwn
-- IMPORT: Derived.Deep.RegionHeld3
-- IMPORT: Derived.Deep.DrawnRows
-- IMPORT: Derived.Deep.CutBlock
def cutE (l : List S45) (node n : Int) : Option Int :=
  (tree_file.f l node).bind fun e => some (if e = 0 then (if n < 0 then 28 else (if 16384 < n then 22 else 0)) else e)
def cutD (u : List S45) (node n now : Int) : Option (List S45) :=
  if 0 ≤ node ∧ node < (u.length : Int) ∧ 0 ≤ n ∧ n ≤ 16384 then some (u.set node.toNat { rd_T45 u node with f1 := sizedL (rd_T45 u node).f1 n.toNat, f5 := now }) else none
def tree_Cut.f (k : Nat) (l0_0 : List S45) (a1 : Int) (a2 : Int) (a3 : Int) : Option (List S45 × Int) :=
  (linkP k l0_0 [a1] a3).bind fun p => if p = true then (cutE l0_0 a1 a2).bind fun e => (if e = 0 then (tree_Own.f k l0_0).bind fun u => (cutD u a1 a2 a3).bind fun r => some (r, 0) else tree_bad.f k l0_0 e) else tree_bad.f k l0_0 100
set_option maxHeartbeats 8000000 in
set_option maxRecDepth 100000 in
theorem tree_Cut.calls (k : Nat) (A0_0 : Option Addr) (c0_0 : Nat) (l0_0 : List S45) (a1 : Int) (a2 : Int) (a3 : Int) (r1 : List S45) (r2 : Int) (w : World) (hr0_0 : Kd.C k45 w A0_0 l0_0.length l0_0) (hc0_0 : l0_0.length ≤ c0_0) (h : tree_Cut.f k l0_0 a1 a2 a3 = some (r1, r2)) :
    Calls Try.prog 25 #[.agg #[.slice A0_0 l0_0.length c0_0], .int .i64 a1, .int .i64 a2, .int .i64 a3] w fun e w' => ∃ v0_ : Value, e = .returned (.tuple #[.agg #[v0_], .int .i64 r2]) ∧ Kd.S k45 45 w' w.heap.size (fun _ => True) v0_ r1 ∧ Below w.heap.size w w' := by
  obtain ⟨p, hP, h⟩ := Option.bind_eq_some_iff.mp h
  have HR := Aside0.mk hr0_0
  have HC := Aside0.mk hc0_0
  have HP := Aside0.mk hP
  have HH := Aside0.mk h
  have hut := Try.underlying24
  have hun := Try.underlying45
  have hsi := Try.underlying88
  have HW := Aside0.mk (treeW_below w A0_0 l0_0.length c0_0)
  have HW0 := Aside0.mk (Below.refl (treeW w A0_0 l0_0.length c0_0).heap.size (treeW w A0_0 l0_0.length c0_0))
  clear hr0_0 hc0_0 hP h
  go_enter Try.func25, Try.ntmps25
  go_upto_region 1 with (fail)
  go_cut [20] (fun v20 wc => v20 = .bool (!p) ∧ Aside0 (Below (treeW w A0_0 l0_0.length c0_0).heap.size (treeW w A0_0 l0_0.length c0_0) wc))
  case first =>
    have hmm := HP.out
    clear HH HP
    unfold linkP at hmm
    obtain ⟨m, hm, hmm⟩ := Option.bind_eq_some_iff.mp hmm
    have HM := Aside0.mk hm
    have HD := Aside0.mk (Kd.R_reads' (R_of_blk (xs := [a1]) (k := .i64) (base := 0) (blk_new (treeW w A0_0 l0_0.length c0_0) (.cells #[.int .i64 a1] 3)) (Nat.zero_le _) (by simp))).2.2
    have hWs : (treeW w A0_0 l0_0.length c0_0).heap.size = w.heap.size + 1 + 1 := by show ((w.alloc _).alloc _).heap.size = _; rw [World.size_alloc, World.size_alloc]
    rw [hWs] at HD
    clear hm hWs
    cases m with
    | false =>
      obtain rfl := Option.some.inj (show some false = some p from hmm)
      clear hmm
      go_wp2_with (first | (go_at_call 40; refine (tree_may.calls k A0_0 c0_0 l0_0 (some ⟨w.heap.size + 1 + 1, 0, none⟩) 1 [a1] false _ (Kd.C_below HR.out (by repeat (first | exact HW.out | exact Below.refl _ _ | apply below_alloc | apply pw_below_drewN | apply below_drew1 | apply below_drew))) HC.out HD.out (by simp) HM.out).mono ?_; rintro e' w1 ⟨rfl, hb⟩; have HB1 := Aside0.mk (below_step (below_alloc HW0.out _) hb); clear hb))
      go_meet
      case rel => exact ⟨rfl, HB1⟩
    | true =>
      obtain ⟨tm, ht, hmm⟩ := Option.bind_eq_some_iff.mp (show ((tree_time.f a3).bind fun tm => some tm) = some p from hmm)
      obtain rfl := Option.some.inj hmm
      have HT := Aside0.mk ht
      clear ht hmm
      go_wp2_with (first | (go_at_call 40; refine (tree_may.calls k A0_0 c0_0 l0_0 (some ⟨w.heap.size + 1 + 1, 0, none⟩) 1 [a1] true _ (Kd.C_below HR.out (by repeat (first | exact HW.out | exact Below.refl _ _ | apply below_alloc | apply pw_below_drewN | apply below_drew1 | apply below_drew))) HC.out HD.out (by simp) HM.out).mono ?_; rintro e' w1 ⟨rfl, hb⟩; have HB1 := Aside0.mk (below_step (below_alloc HW0.out _) hb); clear hb) | (go_at_call 45; refine (tree_time.calls a3 _ _ HT.out).mono ?_; rintro e' w2 ⟨rfl, ⟨nd, rfl⟩⟩))
      go_meet
      case rel => exact ⟨rfl, ⟨by repeat (first | exact HB1.out | exact Below.refl _ _ | apply below_alloc | apply pw_below_drewN | apply below_drew1 | apply below_drew)⟩⟩
  case rest =>
    clear HP HW0
    obtain ⟨rfl, HB⟩ := hcut
    have hct := treeW_cell HB.out
    cases p with
    | false =>
      have hbad : tree_bad.f k l0_0 100 = some (r1, r2) := HH.out
      have HBAD := Aside0.mk hbad
      clear hbad
      go_wp2_with (first | (go_at_call 41; refine (tree_bad.calls k A0_0 c0_0 l0_0 100 r1 r2 _ (Kd.C_below HR.out (below_step HW.out HB.out)) HC.out HBAD.out).mono ?_; rintro e' w1 ⟨v, rfl, hS, hb⟩; obtain ⟨vA, vc, rfl⟩ := Kd.S_slice hS; have HS1 := Aside0.mk hS; have HB1 := Aside0.mk (below_step HB.out hb); have HK := Aside0.mk (treeW_blk HB1.out); have hct1 := (blk_cell HK.out.2 0).trans rfl; have hf1 := blk_frozen HK.out.2 0; clear hS hb))
      refine bodyPost_ret (results_ct rfl _ _ (w.heap.size + 1) 24 #[.slice vA r1.length vc] (0, 0) _ rfl (blk_put HK.out.2 0 _ rfl) Try.underlying24 rfl (by kernel_rfl)) rfl ?_
      exact ⟨_, rfl, Kd.S_set (Kd.S_lower HS1.out (below_step HW.out HB.out).size) HK.out.2 (by decide) 0 _, (below_step HW.out HB1.out).setCell (p := ⟨w.heap.size + 1, 0, none⟩) (by show _ ≤ _ + 1; omega) _⟩
    | true =>
      obtain ⟨e, hE, hq⟩ := Option.bind_eq_some_iff.mp (show ((cutE l0_0 a1 a2).bind fun e => (if e = 0 then (tree_Own.f k l0_0).bind fun u => (cutD u a1 a2 a3).bind fun r => some (r, 0) else tree_bad.f k l0_0 e)) = some (r1, r2) from HH.out)
      have HQ := Aside0.mk hq
      obtain ⟨e0, hd, hE⟩ := Option.bind_eq_some_iff.mp hE
      have HE := Aside0.mk (Option.some.inj hE)
      have HD := Aside0.mk hd
      clear HH hq hE hd
      go_upto_block 0 with (first | (go_at_call 46; refine (tree_file.calls A0_0 c0_0 l0_0 a1 e0 _ (Kd.C_below HR.out (below_step HW.out HB.out)) HC.out HD.out).mono ?_; rintro e' w1 ⟨rfl, hb⟩; have HB1 := Aside0.mk (below_step HB.out hb); have hct1 := treeW_cell HB1.out; clear hb))
      clear HB hct
      go_cut [10] (fun v10 wc => v10 = .int .i64 e ∧ Aside0 (Below (treeW w A0_0 l0_0.length c0_0).heap.size (treeW w A0_0 l0_0.length c0_0) wc))
      case first =>
        clear HQ
        have hE := HE.out
        by_cases y1 : e0 = 0
        · have Y1 : (e0 != 0) = false := by simpa using y1
          rw [if_pos y1] at hE
          clear HE
          by_cases y2 : a2 < 0
          · have Y2 : decide (a2 < 0) = true := decide_eq_true y2
            rw [if_pos y2] at hE
            subst hE
            clear y1 y2
            go_wp2
            go_meet
            case rel => exact ⟨rfl, HB1⟩
          · have Y2 : decide (a2 < 0) = false := decide_eq_false y2
            rw [if_neg y2] at hE
            by_cases y3 : 16384 < a2
            · have Y3 : decide (16384 < a2) = true := decide_eq_true y3
              rw [if_pos y3] at hE
              subst hE
              clear y1 y2 y3
              go_wp2
              go_meet
              case rel => exact ⟨rfl, HB1⟩
            · have Y3 : decide (16384 < a2) = false := decide_eq_false y3
              rw [if_neg y3] at hE
              subst hE
              have Y4 := Aside0.mk y1
              clear y1 y2 y3
              go_wp2
              go_meet
              case rel => exact ⟨by rw [Y4.out], HB1⟩
        · have Y1 : (e0 != 0) = true := by simpa using y1
          rw [if_neg y1] at hE
          subst hE
          clear HE y1
          go_wp2
          go_meet
          case rel => exact ⟨rfl, HB1⟩
      case rest =>
        clear HE HD hct1 HB1
        obtain ⟨rfl, HB⟩ := hcut
        have hct := treeW_cell HB.out
        by_cases z1 : e = 0
        · have Z1 : (e != 0) = false := by simpa using z1
          obtain rfl := z1
          have hq := HQ.out
          rw [if_pos rfl] at hq
          obtain ⟨u, hu, hq⟩ := Option.bind_eq_some_iff.mp hq
          obtain ⟨r, hr, hq⟩ := Option.bind_eq_some_iff.mp hq
          injection (Option.some.inj hq) with hq1 hq2
          subst hq1; subst hq2
          unfold cutD at hr
          split at hr
          · rename_i hg1
            have HADD := Aside0.mk (Option.some.inj hr)
            have HU := Aside0.mk hu
            have HG1 := Aside0.mk hg1
            have HSZ : Aside0 (w.heap.size + 2 ≤ wc.heap.size) := ⟨by have := HB.out.size; have h2 : (treeW w A0_0 l0_0.length c0_0).heap.size = w.heap.size + 1 + 1 := (by show ((w.alloc _).alloc _).heap.size = _; rw [World.size_alloc, World.size_alloc]); omega⟩
            have p0 := eq_true hg1.1
            have p1 := eq_true hg1.2.1
            have hpos : 0 < u.length := by omega
            clear HQ hq hu hr hg1
            go_wp2_with (first | (go_at_call 42; refine (tree_Own.calls k A0_0 c0_0 l0_0 u _ (Kd.C_below HR.out (below_step HW.out HB.out)) HC.out HU.out).mono ?_; rintro e' w1 ⟨v, rfl, hS, hb⟩; obtain ⟨g, vc, rfl, hgN, hgl, _⟩ := Kd.S_form hS hpos; have HB1 := below_step HB.out hb; have hK := treeW_blk HB1; have hX := boxed hK.1 hK.2 (below_step HW.out HB1) (Kd.S_lower (Kd.S_mono (ok' := (fun k => k ≠ w.heap.size ∧ k ≠ w.heap.size + 1)) (Kd.S_bound hS) (fun k hk => ⟨by have := HSZ.out; have := hk.2.1; omega, by have := HSZ.out; have := hk.2.1; omega⟩)) (below_step HW.out HB.out).size); have hct1 := treeW_cell HB1; have hf1 := blk_frozen hK.1 0; have HK6 := Aside0.mk hX.1; have HK12 := Aside0.mk hX.2.1; have HS1 := Aside0.mk hX.2.2.1; have HB2 := Aside0.mk hX.2.2.2; have hct2 := (blk_cell HK6.out 0).trans rfl; have hf2 := blk_frozen HK6.out 0; clear hS hb hX HB1 hK; have hbs := HB2.out.size; obtain ⟨dA, dm, hdc, hdm, hdC, hokg, hgl2, hbg, hda⟩ := data_anew HS1.out a1 HG1.out.1 HG1.out.2.1 hbs (fun q hq => ⟨by have := blk_lt HK12.out; omega, by have := blk_lt HK12.out; omega⟩); have HDA := Aside0.mk hda; have HDC := Aside0.mk hdC; have HDM := Aside0.mk hdm; have HGB := Aside0.mk hbg; have HOG := Aside0.mk hokg; clear hda hdC hdm hbg hokg hgl2 hbs))
            have hsz : tree_sized.f (rd_T45 u a1).f1 a2 = some (sizedL (rd_T45 u a1).f1 a2.toNat) := by
              unfold tree_sized.f
              rw [if_pos HG1.out.2.2.1, if_pos (by have := HG1.out.2.2.2; omega)]
            have HZ := Aside0.mk hsz
            clear hsz
            refine start_ (n := 14) (S := fun w' => w'.cell? ⟨w.heap.size, 0, none⟩ = some (.slice (some ⟨g, 0, none⟩) u.length vc) ∧ w'.cell? ⟨g, a1.toNat * 6 + 1, none⟩ = some (.slice dA (rd_T45 u a1).f1.length dm)) (ds := [13]) #[false, false, false, false, false, false, false, false, false, false, false, false, false, false] (by kernel_rfl) rfl rfl ⟨hct2, hdc⟩ (fun hHeld => ?_)
            refine pure_ (i := 0) (N := some 46) (v := ?_) (a' := ?_) #[true, false, false, false, false, false, false, false, false, false, false, false, false, false] rfl rfl (by kernel_rfl) (fun _ _ _ h => h) (Or.inl ⟨by rfl, ?_⟩) ?_ ?_
            rotate_left
            · intro w'
              go_simp
              with_reducible rfl
            rotate_left
            · simp only [Act.put, List.setIfInBounds_toArray, List.set_cons_zero, List.set_cons_succ, i64_w, i32_w]
              rfl
            refine pure_ (i := 2) (N := some 48) (v := ?_) (a' := ?_) #[true, false, true, false, false, false, false, false, false, false, false, false, false, false] rfl rfl (by kernel_rfl) (fun _ _ _ h => h) (Or.inl ⟨by rfl, ?_⟩) ?_ ?_
            rotate_left
            · intro w'
              go_simp
              with_reducible rfl
            rotate_left
            · simp only [Act.put, List.setIfInBounds_toArray, List.set_cons_zero, List.set_cons_succ, i64_w, i32_w]
              rfl
            refine pure_ (i := 3) (N := some 49) (v := ?_) (a' := ?_) #[true, false, true, true, false, false, false, false, false, false, false, false, false, false] rfl rfl (by kernel_rfl) (fun _ _ _ h => h) (Or.inl ⟨by rfl, ?_⟩) ?_ ?_
            rotate_left
            · intro w'
              go_simp
              with_reducible rfl
            rotate_left
            · simp only [Act.put, List.setIfInBounds_toArray, List.set_cons_zero, List.set_cons_succ, i64_w, i32_w]
              rfl
            refine pure_ (i := 5) (N := some 51) (v := ?_) (a' := ?_) #[true, false, true, true, false, true, false, false, false, false, false, false, false, false] rfl rfl (by kernel_rfl) (fun _ _ _ h => h) (Or.inl ⟨by rfl, ?_⟩) ?_ ?_
            rotate_left
            · intro w'
              go_simp
              with_reducible rfl
            rotate_left
            · simp only [Act.put, List.setIfInBounds_toArray, List.set_cons_zero, List.set_cons_succ, i64_w, i32_w]
              rfl
            refine pure_ (i := 9) (N := some 55) (v := ?_) (a' := ?_) #[true, false, true, true, false, true, false, false, false, true, false, false, false, false] rfl rfl (by kernel_rfl) (fun _ _ _ h => h) (Or.inl ⟨by rfl, ?_⟩) ?_ ?_
            rotate_left
            · intro w'
              go_simp
              with_reducible rfl
            rotate_left
            · simp only [Act.put, List.setIfInBounds_toArray, List.set_cons_zero, List.set_cons_succ, i64_w, i32_w]
              rfl
            refine take_ (i := 1) (N := some 47) (v := ?_) (a' := ?_) #[true, true, true, true, false, true, false, false, false, true, false, false, false, false] rfl rfl (by kernel_rfl) (fun _ _ _ h => h) (Or.inl ⟨by rfl, ?_⟩) hHeld ?_ ?_
            rotate_left
            · rintro w' ⟨s0, s1⟩
              go_simp
              with_reducible rfl
            rotate_left
            · simp only [Act.put, List.setIfInBounds_toArray, List.set_cons_zero, List.set_cons_succ, i64_w, i32_w]
              rfl
            refine take_ (i := 4) (N := some 50) (v := ?_) (a' := ?_) #[true, true, true, true, true, true, false, false, false, true, false, false, false, false] rfl rfl (by kernel_rfl) (fun _ _ _ h => h) (Or.inl ⟨by rfl, ?_⟩) hHeld ?_ ?_
            rotate_left
            · rintro w' ⟨s0, s1⟩
              go_simp
              with_reducible rfl
            rotate_left
            · simp only [Act.put, List.setIfInBounds_toArray, List.set_cons_zero, List.set_cons_succ, i64_w, i32_w]
              rfl
            refine pure_ (i := 6) (N := some 52) (v := ?_) (a' := ?_) #[true, true, true, true, true, true, true, false, false, true, false, false, false, false] rfl rfl (by kernel_rfl) (fun _ _ _ h => h) (Or.inl ⟨by rfl, ?_⟩) ?_ ?_
            rotate_left
            · intro w'
              go_simp
              with_reducible rfl
            rotate_left
            · simp only [Act.put, List.setIfInBounds_toArray, List.set_cons_zero, List.set_cons_succ, i64_w, i32_w]
              rfl
            refine pure_ (i := 7) (N := some 53) (v := ?_) (a' := ?_) #[true, true, true, true, true, true, true, true, false, true, false, false, false, false] rfl rfl (by kernel_rfl) (fun _ _ _ h => h) (Or.inl ⟨by rfl, ?_⟩) ?_ ?_
            rotate_left
            · intro w'
              go_simp
              with_reducible rfl
            rotate_left
            · simp only [Act.put, List.setIfInBounds_toArray, List.set_cons_zero, List.set_cons_succ, i64_w, i32_w]
              rfl
            refine take_ (i := 8) (N := some 54) (v := ?_) (a' := ?_) #[true, true, true, true, true, true, true, true, true, true, false, false, false, false] rfl rfl (by kernel_rfl) (fun _ _ _ h => h) (Or.inl ⟨by rfl, ?_⟩) hHeld ?_ ?_
            rotate_left
            · rintro w' ⟨s0, s1⟩
              go_simp
              with_reducible rfl
            rotate_left
            · simp only [Act.put, List.setIfInBounds_toArray, List.set_cons_zero, List.set_cons_succ, i64_w, i32_w]
              rfl
            refine one_ (i := 10) (N := some 56) #[true, true, true, true, true, true, true, true, true, true, true, false, false, false] rfl rfl (by kernel_rfl) (by decide) (fun K hK => ?_)
            refine goes_ Try.func47 (by kernel_rfl) rfl #[.slice dA (rd_T45 u a1).f1.length dm, .int .i64 a2] (by rfl) rfl rfl (by simp only [List.map_toArray, List.map_cons, List.map_nil]; rfl) ?_
            with_reducible refine (tree_sized.calls dA dm _ a2 _ _ (Kd.C_below HDC.out (by repeat (first | exact Below.refl _ _ | apply below_drew | apply pw_below_drewN | apply below_drew1))) HDM.out HZ.out).mono ?_
            rintro e' w3 ⟨v, rfl, hR3, hb3⟩
            obtain ⟨A3, m3, c3, rfl⟩ := slice_any hR3
            have hb4 := below_step (below_drew (Below.refl _ _)) hb3
            obtain ⟨hfg, ⟨u1, hu1⟩, ⟨u5, hu5⟩, hfg5, _, hda⟩ := HDA.out w3 _ _ hb4 hR3
            have HFIN := Aside0.mk hda
            have HK6b := Aside0.mk (blk_below HK6.out hb4)
            have HK12b := Aside0.mk (blk_below HK12.out hb4)
            have HB5 := Aside0.mk (below_step HB2.out hb4)
            have hct3 := (blk_cell HK6b.out 0).trans rfl
            have hdc3 := (hb4.cell (World.block_lt_of_cell? _ _ hdc)).trans hdc
            have HK6c := Aside0.mk (fun u' : Value => blk_far HK6b.out (p := ⟨g, a1.toNat * 6 + 1, none⟩) (fun e => HOG.out.1 e.symm) u')
            have HK12c := Aside0.mk (fun u' : Value => blk_far HK12b.out (p := ⟨g, a1.toNat * 6 + 1, none⟩) (fun e => HOG.out.2 e.symm) u')
            have HK6d := Aside0.mk (fun u' u2 : Value => blk_far (HK6c.out u') (p := ⟨g, a1.toNat * 6 + 5, none⟩) (fun e => HOG.out.1 e.symm) u2)
            have HK12d := Aside0.mk (fun u' u2 : Value => blk_far (HK12c.out u') (p := ⟨g, a1.toNat * 6 + 5, none⟩) (fun e => HOG.out.2 e.symm) u2)
            have hct4 := fun u' => (blk_cell (HK6c.out u') 0).trans rfl
            have hct5 := fun u' u2 => (blk_cell (HK6d.out u' u2) 0).trans rfl
            have hct12 := fun u' u2 => (blk_cell (HK12d.out u' u2) 0).trans rfl
            have hf12 := fun u' u2 => blk_frozen (HK12d.out u' u2) 0
            clear hR3 hb3 hb4 hda
            refine ⟨_, rfl, ?_⟩
            refine hK.out _ _ ⟨hct3, hdc3⟩ (fun hHeld => ?_)
            clear hK K
            refine norm_ (a' := ?_) ?_ ?_
            rotate_left
            · show Act.put _ (some 56) _ = _
              simp only [Act.put, List.setIfInBounds_toArray, List.set_cons_zero, List.set_cons_succ, i64_w, i32_w]
              rfl
            refine pure_ (i := 11) (N := some 57) (v := ?_) (a' := ?_) #[true, true, true, true, true, true, true, true, true, true, true, true, false, false] rfl rfl (by kernel_rfl) (fun _ _ _ h => h) (Or.inl ⟨by rfl, ?_⟩) ?_ ?_
            rotate_left
            · intro w'
              go_simp
              with_reducible rfl
            rotate_left
            · simp only [Act.put, List.setIfInBounds_toArray, List.set_cons_zero, List.set_cons_succ, i64_w, i32_w]
              rfl
            refine pure_ (i := 12) (N := some 58) (v := ?_) (a' := ?_) #[true, true, true, true, true, true, true, true, true, true, true, true, true, false] rfl rfl (by kernel_rfl) (fun _ _ _ h => h) (Or.inl ⟨by rfl, ?_⟩) ?_ ?_
            rotate_left
            · intro w'
              go_simp
              with_reducible rfl
            rotate_left
            · simp only [Act.put, List.setIfInBounds_toArray, List.set_cons_zero, List.set_cons_succ, i64_w, i32_w]
              rfl
            refine last_ (i := 13) (N := none) #[true, true, true, true, true, true, true, true, true, true, true, true, true, true] rfl rfl (by kernel_rfl) (by decide) (fun K hK => ?_)
            refine skip_ (w1 := ?_) (by rfl) rfl ?_ ?_
            rotate_left
            · go_simp
              rfl
            refine hK.out _ _ ?_
            clear hK K
            refine done_ (by kernel_rfl) ?_
            go_wp2
            refine bodyPost_ret (results_ct rfl _ _ (w.heap.size + 1) 24 #[.slice (some ⟨g, 0, none⟩) u.length vc] (0, 0) _ rfl (blk_put (HK12d.out _ _) 0 _ rfl) Try.underlying24 rfl (by kernel_rfl)) rfl ?_
            refine ⟨_, rfl, ?_, ((HB5.out.setCell HGB.out _).setCell HGB.out _).setCell (p := ⟨w.heap.size + 1, 0, none⟩) (by show _ ≤ _ + 1; omega) _⟩
            rw [← HADD.out]
            exact Kd.S_mono (Kd.S_set (HFIN.out _) (HK12d.out _ _) (by decide) 0 _) (fun _ _ => trivial)
          · cases hr
        · have Z1 : (e != 0) = true := by simpa using z1
          have hbad := HQ.out
          rw [if_neg z1] at hbad
          have HBAD := Aside0.mk hbad
          clear hbad
          clear z1
          go_wp2_with (first | (go_at_call 41; refine (tree_bad.calls k A0_0 c0_0 l0_0 e r1 r2 _ (Kd.C_below HR.out (below_step HW.out HB.out)) HC.out HBAD.out).mono ?_; rintro e' w1 ⟨v, rfl, hS, hb⟩; obtain ⟨vA, vc, rfl⟩ := Kd.S_slice hS; have HS1 := Aside0.mk hS; have HB1 := Aside0.mk (below_step HB.out hb); have HK := Aside0.mk (treeW_blk HB1.out); have hct1 := (blk_cell HK.out.2 0).trans rfl; have hf1 := blk_frozen HK.out.2 0; clear hS hb))
          refine bodyPost_ret (results_ct rfl _ _ (w.heap.size + 1) 24 #[.slice vA r1.length vc] (0, 0) _ rfl (blk_put HK.out.2 0 _ rfl) Try.underlying24 rfl (by kernel_rfl)) rfl ?_
          exact ⟨_, rfl, Kd.S_set (Kd.S_lower HS1.out (below_step HW.out HB.out).size) HK.out.2 (by decide) 0 _, (below_step HW.out HB1.out).setCell (p := ⟨w.heap.size + 1, 0, none⟩) (by show _ ≤ _ + 1; omega) _⟩

end Go.Proofs.Ytjghephnjkffcaa.PCk

namespace Go.Proofs.Ytjghephnjkffcaa.PCk
open Go.RowKit Go.Proofs.YtjghephnjkffcaaW.PrintWords Go.Proofs.YtjghephnjkffcaaW.PrintLast Go.Proofs.YtjghephnjkffcaaW.PrintMore
attribute [local go_sem] max2_int min2_int max_two min_two max_three min_three max_four min_four
set_option linter.unusedVariables false
set_option linter.unusedSimpArgs false
/-! ### What Own, bad, may of the program's tree tell. -/
theorem own_l0 (l : List S45) (hm : l.length < 1599289640401) (hf : ∀ x ∈ l, FitsN x) : ∀ (d i : Nat), i + d = l.length → Ev (fun k => tree_Own.l0 k l (l.length : Int) (i : Int) (l.take i)) l
  | 0, i, h => Ev.step (f := fun _ => some l) (fun k => by rw [tree_Own.l0, if_neg (by omega), List.take_of_length_le (by omega)]) (Ev.now l)
  | d + 1, i, h => by
    have hi : i < l.length := by omega
    have hx : FitsN (rd_T45 l (i : Int)) := by rw [rdN_get l i hi]; exact hf _ (List.getElem_mem _)
    refine Ev.step (fun k => ?_) (own_l0 l hm hf d (i + 1) (by omega))
    rw [tree_Own.l0, if_pos (by omega), if_pos (by omega), if_pos (by omega), if_pos (by have := hx.1; simpa using this), if_pos (by have := hx.2; simpa using this), if_pos (by rw [List.length_take]; omega), up64 (by omega), rdN_get l i hi]
    show tree_Own.l0 k l _ _ (l.take i ++ [l[i]]) = _
    rw [take_next l i hi]
theorem own_ev (l : List S45) (hm : l.length < 1599289640401) (hf : ∀ x ∈ l, FitsN x) : Ev (fun k => tree_Own.f k l) l := own_l0 l hm hf l.length 0 (by omega)
theorem mayN_ev {l : List S45} {m : Bool} (h : Ev (fun k => tree_May.f k l) m) (ns : List Int) : Ev (fun k => tree_may.f k l ns) (m && ns.all fun n => hasB l n) := by
  unfold tree_may.f
  refine Ev.bind (f := fun _ t => if t = true then some (ns.all fun n => hasB l n) else some false) h ?_
  cases m with
  | true => exact Ev.congr (fun _ => if_pos rfl) (by simpa using Ev.now _)
  | false => exact Ev.congr (fun _ => if_neg (by simp)) (Ev.now _)
theorem bad_ev {l : List S45} (hl : l.length < 1599289640401) (hf : ∀ x ∈ l, FitsN x) (e : Int) (h : e = 100 → Ev (fun k => tree_May.f k l) true) : Ev (fun k => tree_bad.f k l e) (l, e) := by
  have ho := own_ev l hl hf
  unfold tree_bad.f
  by_cases h1 : e = 100
  · refine Ev.congr (fun k => if_pos h1) (Ev.bind (f := fun k t => if t = true then ((tree_Own.f k l).bind fun t => some (t, e)) else some ([], e)) (h h1) (Ev.congr (fun k => if_pos rfl) ?_))
    exact Ev.bind (f := fun _ t => some (t, e)) ho (Ev.now _)
  · exact Ev.congr (fun k => if_neg h1) (Ev.bind (f := fun _ t => some (t, e)) ho (Ev.now _))
theorem hasB_nat (l : List S45) (n : Nat) (h : n < l.length) : hasB l (n : Int) = ((rd_T45 l (n : Int)).f0 != 0) := by
  unfold hasB; rw [decide_eq_true (show 0 ≤ (n : Int) by omega), decide_eq_true (show (n : Int) < (l.length : Int) by omega)]; simp
theorem headB_parts {l : List S45} (h : Ev (fun k => tree_May.f k l) true) : headB l = true := by
  obtain ⟨K, hK⟩ := h
  have h1 : tree_May.f K l = some true := hK K (Nat.le_refl _)
  unfold tree_May.f at h1
  by_cases hh : headB l = true
  · exact hh
  · rw [if_neg hh] at h1; cases h1

end Go.Proofs.Ytjghephnjkffcaa.PCk

namespace Go.Proofs.Ytjghephnjkffcaa.PCk
open Go.RowKit Go.Proofs.YtjghephnjkffcaaW.PrintWords Go.Proofs.YtjghephnjkffcaaW.PrintLast Go.Proofs.YtjghephnjkffcaaW.PrintMore
attribute [local go_sem] max2_int min2_int max_two min_two max_three min_three max_four min_four
set_option linter.unusedVariables false
set_option linter.unusedSimpArgs false
-- IMPORT: Derived.Test.@N@DTreebase
-- IMPORT: Derived.Test.@N@DCommon
/-! ### tree.May looks at kinds, names and links alone (and at what each node is by itself). -/
structure SimN (x y : S45) : Prop where
  k : x.f0 = y.f0
  n : x.f2 = y.f2
  l : x.f4 = y.f4
structure Sim (l l' : List S45) : Prop where
  len : l.length = l'.length
  at_ : ∀ i : Int, SimN (rd_T45 l i) (rd_T45 l' i)
theorem Sim.symm {l l' : List S45} (h : Sim l l') : Sim l' l := ⟨h.len.symm, fun i => ⟨(h.at_ i).k.symm, (h.at_ i).n.symm, (h.at_ i).l.symm⟩⟩
theorem Sim.reach {l l' : List S45} (h : Sim l l') {i : Nat} (hr : Reach l i) : Reach l' i := by
  induction hr with
  | root => exact .root
  | step _ hn hx hd ih => exact .step ih (by rw [← h.len]; exact hn) (by rw [← (h.at_ _).n]; exact hx) (by rw [← (h.at_ _).k]; exact hd)
theorem Sim.bumps_ {l l' : List S45} (h : Sim l l') : ∀ (d i : Nat) (c : List Int), bumps l d i c = bumps l' d i c
  | 0, _, _ => rfl
  | d + 1, i, c => by show bumps l d (i + 1) _ = bumps l' d (i + 1) _; rw [(h.at_ _).n]; exact Sim.bumps_ h d (i + 1) _
theorem Sim.nameIn {l l' : List S45} (h : Sim l l') {x : S66} (hx : NameIn l x) : NameIn l' x := ⟨hx.1, by rw [← h.len]; exact hx.2.1, by rw [← (h.at_ _).k]; exact hx.2.2⟩
theorem Sim.head {l l' : List S45} (h : Sim l l') : headB l = headB l' := by
  unfold headB; rw [h.len, (h.at_ _).k, (h.at_ _).k, (h.at_ _).l]
theorem nodes_iff (l : List S45) (hf : Fits l) : nodesB l l.length = true ↔ ∀ j, j < l.length → NodeP (rd_T45 l (j : Int)) ∧ ∀ x ∈ (rd_T45 l (j : Int)).f2, NameIn l x := by
  unfold nodesB
  rw [List.all_eq_true]
  constructor
  · intro h j hj
    have h1 := (tree_node_ok l _ (fits_at hf j hj).1).1 (h j (List.mem_range.2 hj))
    refine ⟨h1.1, ?_⟩
    by_cases hk : (rd_T45 l (j : Int)).f0 = 2
    · exact names_mem.2 (h1.2.2 hk)
    · have : (rd_T45 l (j : Int)).f2 = [] := by
        rcases h1.1 with h | h | h | h
        · rw [h.2]; rfl
        · exact h.2.2.2.1
        · exact absurd h.1 hk
        · exact h.2.2.2.2.2.2
      rw [this]; simp
  · intro h j hj
    have hj := List.mem_range.1 hj
    exact (tree_node_ok l _ (fits_at hf j hj).1).2 ⟨(h j hj).1, fun _ => trivial, fun _ => names_mem.1 (h j hj).2⟩
/-- What tree.May tells of a tree whose head and nodes may be. -/
theorem may_last (l : List S45) (hf : Fits l) (hh : headB l = true) (hA : ∀ j, j < l.length → NodeP (rd_T45 l (j : Int)) ∧ ∀ x ∈ (rd_T45 l (j : Int)).f2, NameIn l x) :
    ∃ R, (∀ i, on R i = true ↔ Reach l i) ∧ Ev (fun k => tree_May.f k l) (lastB l (bumps l l.length 0 (List.replicate l.length 0)) R l.length) := by
  obtain ⟨h0, hl, hk0, hl0⟩ := head_parts hh
  have hr : InRange l := fun n hn x hx => by have := (hA n hn).2 x hx; exact ⟨by have := this.1; omega, this.2.1⟩
  obtain ⟨R, hR, hRl, hRs⟩ := reached_tree l h0 hl hk0 hr
  have hRe : Ev (fun k => tree_reached.f k l) R := Ev.of (fun k => tree_reached.mono _ _) hR
  have hLe := links_ev l hl hf hr
  exact ⟨R, hRs, Ev.congr (fun k => by unfold tree_May.f; rw [if_pos hh, if_pos ((nodes_iff l hf).2 hA)]) (Ev.bind (f := fun k L => (tree_reached.f k l).bind fun R => if L.length = l.length ∧ R.length = l.length then some (lastB l L R l.length) else none) hLe (Ev.bind (f := fun _ R => if (bumps l l.length 0 (List.replicate l.length 0)).length = l.length ∧ R.length = l.length then some (lastB l (bumps l l.length 0 (List.replicate l.length 0)) R l.length) else none) hRe (Ev.congr (fun _ => if_pos ⟨by rw [bumps_len, List.length_replicate], hRl⟩) (Ev.now _))))⟩
theorem may_nodes {l : List S45} (hf : Fits l) (h : Ev (fun k => tree_May.f k l) true) : ∀ j, j < l.length → NodeP (rd_T45 l (j : Int)) ∧ ∀ x ∈ (rd_T45 l (j : Int)).f2, NameIn l x := by
  refine (nodes_iff l hf).1 ?_
  have hh := headB_parts h
  obtain ⟨K, hK⟩ := h
  have h1 : tree_May.f K l = some true := hK K (Nat.le_refl _)
  unfold tree_May.f at h1
  rw [if_pos hh] at h1
  by_cases hn : nodesB l l.length = true
  · exact hn
  · rw [if_neg hn] at h1; cases h1
/-- A tree that is like one that may be, and whose nodes each may be, may be. -/
theorem may_sim {l l' : List S45} (hf : Fits l) (hf' : Fits l') (hs : Sim l l') (h : Ev (fun k => tree_May.f k l) true) (hN : ∀ j, j < l.length → NodeP (rd_T45 l' (j : Int))) : Ev (fun k => tree_May.f k l') true := by
  have hh := headB_parts h
  have hA := may_nodes hf h
  obtain ⟨R, hR, hE⟩ := may_last l hf hh hA
  have hA' : ∀ j, j < l'.length → NodeP (rd_T45 l' (j : Int)) ∧ ∀ x ∈ (rd_T45 l' (j : Int)).f2, NameIn l' x := fun j hj => by
    rw [← hs.len] at hj
    exact ⟨hN j hj, fun x hx => hs.nameIn ((hA j hj).2 x (by rw [(hs.at_ _).n]; exact hx))⟩
  obtain ⟨R', hR', hE'⟩ := may_last l' hf' (hs.head ▸ hh) hA'
  have hlt : lastB l (bumps l l.length 0 (List.replicate l.length 0)) R l.length = true := Ev.one hE h
  have e : lastB l' (bumps l' l'.length 0 (List.replicate l'.length 0)) R' l'.length = true := by
    rw [← hlt, ← hs.len, ← hs.bumps_]
    unfold lastB
    congr 1
    funext i
    have hRR : rdOf false R' (i : Int) = rdOf false R (i : Int) := Bool.eq_iff_iff.2 ((hR' i).trans (Iff.trans ⟨hs.symm.reach, hs.reach⟩ (hR i).symm))
    unfold nodeBad
    rw [hRR, (hs.at_ _).k, (hs.at_ _).n, (hs.at_ _).l]
  rw [← e]; exact hE'
/-- A file's data and time written anew. -/
theorem may_data {l : List S45} (hf : Fits l) (h : Ev (fun k => tree_May.f k l) true) (n : Nat) (hn : n < l.length) (hk : (rd_T45 l (n : Int)).f0 = 1) (d : List Int) (hd : d.length ≤ 16384) (t : Int) (ht : TimeP t) :
    Fits (l.set n { rd_T45 l (n : Int) with f1 := d, f5 := t }) ∧ Ev (fun k => tree_May.f k (l.set n { rd_T45 l (n : Int) with f1 := d, f5 := t })) true := by
  have hx := fits_at hf n hn
  have hrd : ∀ j : Nat, rd_T45 (l.set n { rd_T45 l (n : Int) with f1 := d, f5 := t }) (j : Int) = if n = j then { rd_T45 l (n : Int) with f1 := d, f5 := t } else rd_T45 l (j : Int) := fun j => by
    show (l.set n _).getD (j : Int).toNat _ = if n = j then _ else l.getD (j : Int).toNat _
    rw [Int.toNat_natCast, List.getD_eq_getElem?_getD, List.getD_eq_getElem?_getD, List.getElem?_set]
    by_cases e : n = j
    · subst e; simp [hn]
    · rw [if_neg e, if_neg e]
  have hff : Fits (l.set n { rd_T45 l (n : Int) with f1 := d, f5 := t }) := fun x hm => by
    rcases List.mem_or_eq_of_mem_set hm with h | h
    · exact hf x h
    · subst h; exact ⟨⟨by show d.length < _; omega, hx.1.2⟩, hx.2.1, hx.2.2⟩
  refine ⟨hff, may_sim hf hff ⟨by simp, fun i => ?_⟩ h fun j hj => ?_⟩
  · have hi : ∀ l : List S45, rd_T45 l i = rd_T45 l (i.toNat : Int) := fun l => by unfold rd_T45; rw [Int.toNat_natCast]
    rw [hi l, hi (l.set _ _), hrd]
    by_cases e : n = i.toNat
    · rw [if_pos e, ← e]; exact ⟨rfl, rfl, rfl⟩
    · rw [if_neg e]; exact ⟨rfl, rfl, rfl⟩
  · rw [hrd]
    by_cases e : n = j
    · rw [if_pos e]
      rcases (may_nodes hf h n hn).1 with q | q | q | q
      · rw [hk] at q; exact absurd q.1 (by decide)
      · exact .inr (.inl ⟨q.1, ht, hd, q.2.2.2⟩)
      · rw [hk] at q; exact absurd q.1 (by decide)
      · rw [hk] at q; exact absurd q.1 (by decide)
    · rw [if_neg e]; exact (may_nodes hf h j hj).1

end Go.Proofs.Ytjghephnjkffcaa.PCk

namespace Go.Proofs.Ytjghephnjkffcaa.PCk
open Go.RowKit Go.Proofs.YtjghephnjkffcaaW.PrintWords Go.Proofs.YtjghephnjkffcaaW.PrintLast Go.Proofs.YtjghephnjkffcaaW.PrintMore
attribute [local go_sem] max2_int min2_int max_two min_two max_three min_three max_four min_four
set_option linter.unusedVariables false
set_option linter.unusedSimpArgs false
-- FUNCTION: slices.Clone[[]byte,byte]
-- IMPORT: Derived.WalkSpells
def slices_Clone_byte_byte.f (l0 : List Int) : Option (List Int) := if l0.length < 140737488355328 then some l0 else none
set_option maxHeartbeats 1000000 in
set_option maxRecDepth 100000 in
theorem slices_Clone_byte_byte.calls (A0 : Option Addr) (c0 : Nat) (l0 : List Int) (r : List Int) (w : World) (hr0 : Kd.C (Kd.int .u8) w A0 l0.length l0) (hc0 : l0.length ≤ c0) (h : slices_Clone_byte_byte.f l0 = some r) :
    Calls Try.prog 48 #[.slice A0 l0.length c0] w fun e w' => ∃ v0_ : Value, e = .returned (v0_) ∧ Kd.R (Kd.int .u8) 5 w' w.heap.size (fun _ => True) v0_ r ∧ Below w.heap.size w w' := by
  unfold slices_Clone_byte_byte.f at h
  split at h
  · rename_i hlt
    obtain rfl := Option.some.inj h
    have HL := Aside0.mk hlt
    have HR := Aside0.mk hr0
    have HC := Aside0.mk hc0
    clear hlt hr0 hc0 h
    have h1 := fun (w : World) (a : Option Addr) (n c n' c' : Nat) => Lib.run_eql_slice_nil (P := Try.prog) w 36 5 a n c n' c' Try.underlying36
    have HN : Aside0 (A0 = none → l0 = []) := ⟨fun e => by
      by_cases hz : 0 < l0.length
      · obtain ⟨ad, h, _⟩ := HR.out.2.2 hz
        rw [e] at h; cases h
      · exact List.eq_nil_of_length_eq_zero (by omega)⟩
    go_enter Try.func48, Try.ntmps48
    cases A0 with
    | none =>
      obtain rfl := HN.out rfl
      go_wp2
      go_ret
      exact ⟨_, rfl, Kd.R_nil _ _ _ _ _, Below.refl _ _⟩
    | some ad =>
      go_wp2_with (first | (at_builtin; refine Kd.R_append_row (Value.int .u8) (0 : Int) (h1 := fun _ => rfl) (w0 := w) w.heap.size rfl (.tmp 5) (.tmp 6) 36 5 (.int .u8 0) 1 rfl Try.underlying36 info5 rfl (by decide) (.slice (some ⟨w.heap.size, 0, none⟩) 0 0) [] l0 (some ad) l0.length c0 (fun _ => True) rfl rfl (fun _ _ => trivial) ?ho ?hr ?hb ?hs ?hl ?_; (case hr => exact Kd.C_below HR.out (below_alloc (Below.refl _ _) _)); (case hb => exact below_alloc (Below.refl _ _) _); (case hs => simp); (case hl => have := HL.out; simp; omega); (case ho => exact Kd.R_of_own (own_lit w w.heap.size 5 .u8 [] (Nat.le_refl _) (by decide)) (fun _ _ => trivial)); intro v1 w1 hR hB hg hat))
      go_ret
      exact ⟨_, rfl, hR, hB⟩
  · cases h

end Go.Proofs.Ytjghephnjkffcaa.PCk

namespace Go.Proofs.Ytjghephnjkffcaa.PCk
open Go.RowKit Go.Proofs.YtjghephnjkffcaaW.PrintWords Go.Proofs.YtjghephnjkffcaaW.PrintLast Go.Proofs.YtjghephnjkffcaaW.PrintMore
attribute [local go_sem] max2_int min2_int max_two min_two max_three min_three max_four min_four
set_option linter.unusedVariables false
set_option linter.unusedSimpArgs false
-- FUNCTION: gangway/tree.Read
-- IMPORT: Derived.Test.@N@WOwn
def readL (b : List Int) (t n : Nat) : List Int := (b.drop (min t b.length)).take (min n (b.length - min t b.length))
def tree_Read.f (k : Nat) (l0_0 : List S45) (a1 : Int) (a2 : Int) (a3 : Int) : Option (List Int × Int) :=
  (tree_may.f k l0_0 [a1]).bind fun m => if m = true then (tree_file.f l0_0 a1).bind fun e => (if e = 0 then (if a2 < 0 then some ([], 28) else if a3 < 0 then some ([], 28) else if 0 ≤ a1 ∧ a1 < (l0_0.length : Int) ∧ (rd_T45 l0_0 a1).f1.length ≤ 1000000 then some (readL (rd_T45 l0_0 a1).f1 a2.toNat a3.toNat, 0) else none) else some ([], e)) else some ([], 100)
/-- 'xs[j:]', its parts under names of their own. -/
theorem cut_any (A : Option Addr) (c : Nat) (xs : List Int) (j : Nat) (hj : j ≤ xs.length) (hc : xs.length ≤ c) : ∃ (A' : Option Addr) (n' c' : Nat), (∀ W : World, (Instr.slice 36 (.slice A xs.length c) (some (.int .i64 (j : Int))) none none).run Try.prog W = .ok (.slice A' n' c') W) ∧ Aside0 (n' = xs.length - j) ∧ Aside0 (n' ≤ c') ∧ ∀ W, Kd.C (Kd.int .u8) W A xs.length xs → Kd.C (Kd.int .u8) W A' n' (xs.drop j) := by
  obtain ⟨i0, hi0, _, hsz, _⟩ := info_parts info5
  refine ⟨_, _, _, cut_from (P := Try.prog) 36 5 .i64 Try.underlying36 hi0 1 hsz A xs.length c (j : Int) (by omega) (by omega), ⟨by rw [Int.toNat_natCast]⟩, ⟨by rw [Int.toNat_natCast]; omega⟩, fun W h => ?_⟩
  have h2 := Kd.C_drop h hj hc
  rw [Int.toNat_natCast]
  rw [List.length_drop] at h2
  exact h2
theorem cut_up (A : Option Addr) (n c j : Nat) (hj : j ≤ n) (hc : n ≤ c) : ∀ W : World, (Instr.slice 36 (.slice A n c) none (some (.int .i64 (j : Int))) none).run Try.prog W = .ok (.slice A j c) W := by
  obtain ⟨i0, hi0, _, hsz, _⟩ := info_parts info5
  have h := cut_to (P := Try.prog) 36 5 .i64 Try.underlying36 hi0 A n c (j : Int) (by omega) (by omega) hc
  rw [Int.toNat_natCast] at h
  exact h
set_option maxHeartbeats 8000000 in
set_option maxRecDepth 100000 in
theorem tree_Read.calls (k : Nat) (A0_0 : Option Addr) (c0_0 : Nat) (l0_0 : List S45) (a1 : Int) (a2 : Int) (a3 : Int) (r1 : List Int) (r2 : Int) (w : World) (hr0_0 : Kd.C k45 w A0_0 l0_0.length l0_0) (hc0_0 : l0_0.length ≤ c0_0) (h : tree_Read.f k l0_0 a1 a2 a3 = some (r1, r2)) :
    Calls Try.prog 23 #[.agg #[.slice A0_0 l0_0.length c0_0], .int .i64 a1, .int .i64 a2, .int .i64 a3] w fun e w' => ∃ v0_ : Value, e = .returned (.tuple #[v0_, .int .i64 r2]) ∧ Kd.R (Kd.int .u8) 5 w' w.heap.size (fun _ => True) v0_ r1 ∧ Below w.heap.size w w' := by
  obtain ⟨m, hm, h⟩ := Option.bind_eq_some_iff.mp h
  have HR := Aside0.mk hr0_0
  have HC := Aside0.mk hc0_0
  have HM := Aside0.mk hm
  have hut := Try.underlying24
  have hun := Try.underlying45
  have hsi := Try.underlying88
  have HW := Aside0.mk (below_alloc (Below.refl w.heap.size w) (.cells #[.slice A0_0 l0_0.length c0_0] 24))
  have HD := Aside0.mk (Kd.R_reads' (R_of_blk (xs := [a1]) (k := .i64) (base := 0) (blk_new (w.alloc (.cells #[.slice A0_0 l0_0.length c0_0] 24)) (.cells #[.int .i64 a1] 3)) (Nat.zero_le _) (by simp))).2.2
  rw [World.size_alloc] at HD
  have HK := Aside0.mk (blk_alloc (blk_new w (.cells #[.slice A0_0 l0_0.length c0_0] 24)) (.cells #[.int .i64 a1] 3))
  clear hr0_0 hc0_0 hm
  cases m with
  | false =>
    have h1 : some (([] : List Int), (100 : Int)) = some (r1, r2) := h
    injection (Option.some.inj h1) with e1 e2
    subst e1; subst e2
    clear h h1
    go_enter Try.func23, Try.ntmps23
    go_wp2_with (first | (go_at_call 40; refine (tree_may.calls k _ c0_0 l0_0 (some ⟨w.heap.size + 1, 0, none⟩) 1 [a1] _ _ (Kd.C_below HR.out (by repeat (first | exact HW.out | apply below_alloc))) HC.out HD.out (by simp) HM.out).mono ?_; rintro e' w1 ⟨rfl, hb⟩; have HB := Aside0.mk (below_step (below_alloc HW.out _) hb); have hct := (blk_cell (blk_below HK.out hb) 0).trans rfl; have HK1 := Aside0.mk (blk_below HK.out hb); clear hb))
    go_ret2
    exact ⟨_, rfl, Kd.R_nil _ _ _ _ _, HB.out⟩
  | true =>
    obtain ⟨e, he, h⟩ := Option.bind_eq_some_iff.mp (show (tree_file.f l0_0 a1).bind _ = some (r1, r2) from h)
    have HE := Aside0.mk he
    clear he
    by_cases z1 : e = 0
    · rw [if_pos z1] at h
      have Z1 : (e != 0) = false := by simpa using z1
      by_cases z2 : a2 < 0
      · have Z2 : decide (a2 < 0) = true := decide_eq_true z2
        rw [if_pos z2] at h
        injection (Option.some.inj h) with e1 e2
        subst e1; subst e2
        clear h z1 z2
        go_enter Try.func23, Try.ntmps23
        go_wp2_with (first | (go_at_call 40; refine (tree_may.calls k _ c0_0 l0_0 (some ⟨w.heap.size + 1, 0, none⟩) 1 [a1] _ _ (Kd.C_below HR.out (by repeat (first | exact HW.out | apply below_alloc))) HC.out HD.out (by simp) HM.out).mono ?_; rintro e' w1 ⟨rfl, hb⟩; have HB := Aside0.mk (below_step (below_alloc HW.out _) hb); have hct := (blk_cell (blk_below HK.out hb) 0).trans rfl; have HK1 := Aside0.mk (blk_below HK.out hb); clear hb) | (go_at_call 46; refine (tree_file.calls _ c0_0 l0_0 a1 _ _ (Kd.C_below HR.out HB.out) HC.out HE.out).mono ?_; rintro e' w2 ⟨rfl, hb⟩; have HBn := Aside0.mk (below_step HB.out hb); have hct2 := (blk_cell (blk_below HK1.out hb) 0).trans rfl; clear HB hb; have HB := HBn; clear HBn; (try (have hdx := (HB.out.cell (World.block_lt_of_cell? _ _ HX1.out)).trans HX1.out))))
        go_ret2
        exact ⟨_, rfl, Kd.R_nil _ _ _ _ _, HB.out⟩
      · have Z2 : decide (a2 < 0) = false := decide_eq_false z2
        rw [if_neg z2] at h
        by_cases z3 : a3 < 0
        · have Z3 : decide (a3 < 0) = true := decide_eq_true z3
          rw [if_pos z3] at h
          injection (Option.some.inj h) with e1 e2
          subst e1; subst e2
          clear h z1 z2 z3
          go_enter Try.func23, Try.ntmps23
          go_wp2_with (first | (go_at_call 40; refine (tree_may.calls k _ c0_0 l0_0 (some ⟨w.heap.size + 1, 0, none⟩) 1 [a1] _ _ (Kd.C_below HR.out (by repeat (first | exact HW.out | apply below_alloc))) HC.out HD.out (by simp) HM.out).mono ?_; rintro e' w1 ⟨rfl, hb⟩; have HB := Aside0.mk (below_step (below_alloc HW.out _) hb); have hct := (blk_cell (blk_below HK.out hb) 0).trans rfl; have HK1 := Aside0.mk (blk_below HK.out hb); clear hb) | (go_at_call 46; refine (tree_file.calls _ c0_0 l0_0 a1 _ _ (Kd.C_below HR.out HB.out) HC.out HE.out).mono ?_; rintro e' w2 ⟨rfl, hb⟩; have HBn := Aside0.mk (below_step HB.out hb); have hct2 := (blk_cell (blk_below HK1.out hb) 0).trans rfl; clear HB hb; have HB := HBn; clear HBn; (try (have hdx := (HB.out.cell (World.block_lt_of_cell? _ _ HX1.out)).trans HX1.out))))
          go_ret2
          exact ⟨_, rfl, Kd.R_nil _ _ _ _ _, HB.out⟩
        · have Z3 : decide (a3 < 0) = false := decide_eq_false z3
          rw [if_neg z3] at h
          split at h
          · rename_i hg
            obtain ⟨g0, g1, g2⟩ := hg
            injection (Option.some.inj h) with e1 e2
            subst e2
            have HRES := Aside0.mk e1
            obtain ⟨t, rfl⟩ : ∃ t : Nat, a2 = (t : Int) := ⟨a2.toNat, by omega⟩
            obtain ⟨s, rfl⟩ : ∃ s : Nat, a3 = (s : Int) := ⟨a3.toNat, by omega⟩
            obtain ⟨na, A1, c1, A2, c2, rfl, hx0, hx1, hx2, hx3, hx4, hx5, hl1, hi1, hl2, hi2⟩ := at_T45 HR.out a1 g0 g1
            have HX1 := Aside0.mk hx1
            have HI1 := Aside0.mk hi1
            obtain ⟨M1, hM1⟩ : ∃ M1, M1 = min t (rd_T45 l0_0 a1).f1.length := ⟨_, rfl⟩
            have hM1l : M1 ≤ (rd_T45 l0_0 a1).f1.length := by rw [hM1]; exact Nat.min_le_right _ _
            obtain ⟨A', n', c', hrun, HN, HNC, hCd⟩ := cut_any A1 c1 (rd_T45 l0_0 a1).f1 M1 hM1l hl1
            have HCD := Aside0.mk hCd
            obtain ⟨M2, hM2⟩ : ∃ M2, M2 = min s n' := ⟨_, rfl⟩
            have hrun2 := cut_up A' n' c' M2 (by rw [hM2]; exact Nat.min_le_right _ _) HNC.out
            have HM2l := Aside0.mk (show M2 ≤ n' by rw [hM2]; exact Nat.min_le_right _ _)
            have HRV : Aside0 (readL (rd_T45 l0_0 a1).f1 t s = ((rd_T45 l0_0 a1).f1.drop M1).take M2) := ⟨by unfold readL; rw [hM2, HN.out, hM1]⟩
            have HLV : Aside0 ((((rd_T45 l0_0 a1).f1.drop M1).take M2).length = M2) := ⟨by rw [List.length_take, List.length_drop]; have := HN.out; have := HM2l.out; omega⟩
            have HCLN : Aside0 (∀ W : World, Below w.heap.size w W → Calls Try.prog 48 #[.slice A' M2 c'] W fun e w' => ∃ v0_ : Value, e = .returned v0_ ∧ Kd.R (Kd.int .u8) 5 w' W.heap.size (fun _ => True) v0_ (((rd_T45 l0_0 a1).f1.drop M1).take M2) ∧ Below W.heap.size W w') := ⟨fun W hB => by
              have h9 := HCD.out W (Kd.C_below HI1.out hB)
              have h10 : Kd.C (Kd.int .u8) W A' ((rd_T45 l0_0 a1).f1.drop M1).length ((rd_T45 l0_0 a1).f1.drop M1) := by rw [h9.1]; exact h9
              have hT := Kd.C_take (m := M2) h10 (by rw [h9.1]; exact HM2l.out)
              have hq := slices_Clone_byte_byte.calls A' c' _ (((rd_T45 l0_0 a1).f1.drop M1).take M2) W hT (by rw [HLV.out]; have := HM2l.out; have := HNC.out; omega) (by unfold slices_Clone_byte_byte.f; rw [if_pos (by rw [HLV.out]; have := HM2l.out; have := HN.out; omega)])
              rw [HLV.out] at hq
              exact hq⟩
            have hs1 : ((rd_T45 l0_0 a1).f1.length < t ∧ M1 = (rd_T45 l0_0 a1).f1.length) ∨ (¬ (rd_T45 l0_0 a1).f1.length < t ∧ M1 = t) := by rw [hM1]; omega
            have hs2 : (n' < s ∧ M2 = n') ∨ (¬ n' < s ∧ M2 = s) := by rw [hM2]; omega
            have p0 := eq_true g0
            have p1 := eq_true g1
            have hmax := hi1.2.1
            have hn9 : n' ≤ 9223372036854775807 := by have := HN.out; omega
            clear h z1 z2 z3 hx0 hx1 hx2 hx3 hx4 hx5 hl1 hi1 hl2 hi2 hM1 hM2 hCd e1 g0 g1
            rcases hs1 with ⟨x1, rfl⟩ | ⟨x1, rfl⟩ <;> rcases hs2 with ⟨x2, rfl⟩ | ⟨x2, rfl⟩
            all_goals
              go_enter Try.func23, Try.ntmps23
              go_wp2_with (first | (go_at_call 40; refine (tree_may.calls k _ c0_0 l0_0 (some ⟨w.heap.size + 1, 0, none⟩) 1 [a1] _ _ (Kd.C_below HR.out (by repeat (first | exact HW.out | apply below_alloc))) HC.out HD.out (by simp) HM.out).mono ?_; rintro e' w1 ⟨rfl, hb⟩; have HB := Aside0.mk (below_step (below_alloc HW.out _) hb); have hct := (blk_cell (blk_below HK.out hb) 0).trans rfl; have HK1 := Aside0.mk (blk_below HK.out hb); clear hb) | (go_at_call 46; refine (tree_file.calls _ c0_0 l0_0 a1 _ _ (Kd.C_below HR.out HB.out) HC.out HE.out).mono ?_; rintro e' w2 ⟨rfl, hb⟩; have HBn := Aside0.mk (below_step HB.out hb); have hct2 := (blk_cell (blk_below HK1.out hb) 0).trans rfl; clear HB hb; have HB := HBn; clear HBn; (try (have hdx := (HB.out.cell (World.block_lt_of_cell? _ _ HX1.out)).trans HX1.out))) | (go_at_call 48; have HB1 := HB; refine (HCLN.out _ HB.out).mono ?_; rintro e' w3 ⟨v, rfl, hR9, hb9⟩; have hRR := Aside0.mk hR9))
              go_ret2
              exact ⟨_, rfl, by rw [← HRES.out, Int.toNat_natCast, Int.toNat_natCast, HRV.out]; exact Kd.R_lower hRR.out HB1.out.size, below_step HB1.out hb9⟩
          · cases h
    · rw [if_neg z1] at h
      have Z1 : (e != 0) = true := by simpa using z1
      injection (Option.some.inj h) with e1 e2
      subst e1; subst e2
      clear h z1
      go_enter Try.func23, Try.ntmps23
      go_wp2_with (first | (go_at_call 40; refine (tree_may.calls k _ c0_0 l0_0 (some ⟨w.heap.size + 1, 0, none⟩) 1 [a1] _ _ (Kd.C_below HR.out (by repeat (first | exact HW.out | apply below_alloc))) HC.out HD.out (by simp) HM.out).mono ?_; rintro e' w1 ⟨rfl, hb⟩; have HB := Aside0.mk (below_step (below_alloc HW.out _) hb); have hct := (blk_cell (blk_below HK.out hb) 0).trans rfl; have HK1 := Aside0.mk (blk_below HK.out hb); clear hb) | (go_at_call 46; refine (tree_file.calls _ c0_0 l0_0 a1 _ _ (Kd.C_below HR.out HB.out) HC.out HE.out).mono ?_; rintro e' w2 ⟨rfl, hb⟩; have HBn := Aside0.mk (below_step HB.out hb); have hct2 := (blk_cell (blk_below HK1.out hb) 0).trans rfl; clear HB hb; have HB := HBn; clear HBn; (try (have hdx := (HB.out.cell (World.block_lt_of_cell? _ _ HX1.out)).trans HX1.out))))
      go_ret2
      exact ⟨_, rfl, Kd.R_nil _ _ _ _ _, HB.out⟩

end Go.Proofs.Ytjghephnjkffcaa.PCk

namespace Go.Proofs.Ytjghephnjkffcaa.PCk
open Go.RowKit Go.Proofs.YtjghephnjkffcaaW.PrintWords Go.Proofs.YtjghephnjkffcaaW.PrintLast Go.Proofs.YtjghephnjkffcaaW.PrintMore
attribute [local go_sem] max2_int min2_int max_two min_two max_three min_three max_four min_four
set_option linter.unusedVariables false
set_option linter.unusedSimpArgs false
-- FUNCTION: gangway/tree.Write
-- IMPORT: Derived.Test.@N@WOwn
-- IMPORT: Derived.Deep.RegionHeld3
-- IMPORT: Derived.Deep.DrawnRows
-- IMPORT: Derived.Deep.CutBlock
def writeE (l : List S45) (node at_ : Int) (b : List Int) : Option Int :=
  (tree_file.f l node).bind fun e => some (if e = 0 then (if at_ < 0 then 28 else (if 16384 < at_ then 22 else if 16384 - at_ < (b.length : Int) then 22 else 0)) else e)
def wroteB (old : List Int) (t : Nat) (b : List Int) : List Int := splice (sizedL old (max old.length (t + b.length))) t b
def writeD (u : List S45) (node at_ : Int) (b : List Int) (now : Int) : Option (List S45) :=
  if 0 ≤ node ∧ node < (u.length : Int) ∧ 0 ≤ at_ ∧ at_ ≤ 16384 ∧ b.length ≤ 16384 ∧ (rd_T45 u node).f1.length ≤ 1000000 then some (if b.length = 0 then u else u.set node.toNat { rd_T45 u node with f1 := wroteB (rd_T45 u node).f1 at_.toNat b, f5 := now }) else none
def tree_Write.f (k : Nat) (l0_0 : List S45) (a1 : Int) (a2 : Int) (l3 : List Int) (a4 : Int) : Option (List S45 × Int) :=
  (linkP k l0_0 [a1] a4).bind fun p => if p = true then (writeE l0_0 a1 a2 l3).bind fun e => (if e = 0 then (tree_Own.f k l0_0).bind fun u => (writeD u a1 a2 l3 a4).bind fun r => some (r, 0) else tree_bad.f k l0_0 e) else tree_bad.f k l0_0 100
/-- A node's Data and Time written anew, Data being a row that was made since and is written once more, when it stands in the node already. -/
theorem data_twice {w2 : World} {base g c : Nat} {ok : Nat → Prop} {l : List S45} (hS : Kd.S k45 45 w2 base ok (.slice (some ⟨g, 0, none⟩) l.length c) l) (x : Int) (h0 : 0 ≤ x) (h1 : x < (l.length : Int)) (hbase : base ≤ w2.heap.size) (hfresh : ∀ k, w2.heap.size ≤ k → ok k)
    (w3 : World) (v1' : Value) (hv1 : v1'.oneCell' = true) (hb : Below w2.heap.size w2 w3) (w5 : World) (hk5 : Kept (w3.setCell ⟨g, x.toNat * 6 + 1, none⟩ v1') w5 (fun k => w2.heap.size ≤ k)) (bs' : List Int) (hR5 : (Kd.int .u8).R 5 w5 w2.heap.size (fun _ => True) v1' bs') :
    (∃ u, w5.cell? ⟨g, x.toNat * 6 + 5, none⟩ = some u) ∧ (∀ j, w5.frozen? ⟨g, j, none⟩ = false) ∧ ∀ now : Int, Kd.S k45 45 (w5.setCell ⟨g, x.toNat * 6 + 5, none⟩ (.int .i64 now)) base ok (.slice (some ⟨g, 0, none⟩) l.length c) (l.set x.toNat { rd_T45 l x with f1 := bs', f5 := now }) := by
  obtain ⟨oki, cs, hcl, hM, hcc, hoki, hH⟩ := Kd.S_lend hS z45 x h0 h1
  obtain ⟨g', cap', e', hbg, hgl, cells, hgb⟩ := Kd.S_form hS (by omega)
  injection e' with e1 _ _
  injection e1 with e1
  injection e1 with e1
  subst e1
  obtain ⟨v1, v2, rfl, hR1, hR2⟩ := k45_openM hM
  have hgb3 := blk_below hgb hb
  have hH3 := Kd.H_below (Kd.H_widen hH) hb
  have hR23 : k66.R 66 w3 base (fun k => oki k ∧ k < w2.heap.size) v2 (rd_T45 l x).f2 := Kd.R_below (Kd.R_mono (Kd.R_bound hR2) (fun k hk => ⟨hk.1, hk.2.2.1⟩)) hb
  have hseg1 := (Kd.H_seg hH3 h0 h1 (seg := [v1']) (j := 1) (by show 1 + 1 ≤ 6; omega) (fun q hq => by rw [List.mem_singleton.1 hq]; exact hv1)).1
  have hb1 := blk_set hgb3 (x.toNat * 6 + 1) v1'
  have hR24 := Kd.R_set hR23 hgb3 (by decide) (x.toNat * 6 + 1) v1'
  have hb5 := (hk5.2 g (blk_lt hb1) (by omega)).trans hb1
  have hR25 : k66.R 66 w5 base (fun k => oki k ∧ k < w2.heap.size) v2 (rd_T45 l x).f2 := Kd.R_kept hR24 hk5 (fun k hk => by omega)
  have hH5 := Kd.H_step hseg1 (fun k hok hnot hlt => hk5.2 k hlt (fun hge => hnot (.inr ⟨hok, hge⟩)))
  have hcell5 : ∃ u, w5.cell? ⟨g, x.toNat * 6 + 5, none⟩ = some u := by
    obtain ⟨rows, _, _, _, _, hc5, _⟩ := Kd.H_raw hH5 h0 h1
    exact ⟨_, hc5 5 _ rfl⟩
  have hR15 : (Kd.int .u8).R 5 w5 base (fun k => oki k ∨ (ok k ∧ w2.heap.size ≤ k)) v1' bs' := Kd.R_lower (Kd.R_mono (Kd.R_bound hR5) (fun k hk => .inr ⟨hfresh k hk.2.1, hk.2.1⟩)) hbase
  refine ⟨hcell5, fun j => blk_frozen hb5 j, fun now => ?_⟩
  have hseg2 := (Kd.H_seg hH5 h0 h1 (seg := [.int .i64 now]) (j := 5) (by show 5 + 1 ≤ 6; omega) (fun q hq => by rw [List.mem_singleton.1 hq]; rfl)).1
  refine Kd.H_back hseg2 (x' := { rd_T45 l x with f1 := bs', f5 := now }) (okp := fun k => oki k ∨ (ok k ∧ w2.heap.size ≤ k)) ?_ (fun _ hk => hk)
  exact k45_mkM _ _ _ { rd_T45 l x with f1 := bs', f5 := now } (Kd.R_set hR15 hb5 (by decide) _ _) (Kd.R_set (Kd.R_mono hR25 (fun k hk => .inl hk.1)) hb5 (by decide) _ _)
set_option maxHeartbeats 8000000 in
set_option maxRecDepth 100000 in
theorem tree_Write.calls (k : Nat) (A0_0 : Option Addr) (c0_0 : Nat) (l0_0 : List S45) (a1 : Int) (a2 : Int) (A3 : Option Addr) (c3 : Nat) (l3 : List Int) (a4 : Int) (r1 : List S45) (r2 : Int) (w : World) (hr0_0 : Kd.C k45 w A0_0 l0_0.length l0_0) (hc0_0 : l0_0.length ≤ c0_0) (hr3 : Kd.C (Kd.int .u8) w A3 l3.length l3) (hc3 : l3.length ≤ c3) (h : tree_Write.f k l0_0 a1 a2 l3 a4 = some (r1, r2)) :
    Calls Try.prog 22 #[.agg #[.slice A0_0 l0_0.length c0_0], .int .i64 a1, .int .i64 a2, .slice A3 l3.length c3, .int .i64 a4] w fun e w' => ∃ v0_ : Value, e = .returned (.tuple #[.agg #[v0_], .int .i64 r2]) ∧ Kd.S k45 45 w' w.heap.size (fun _ => True) v0_ r1 ∧ Below w.heap.size w w' := by
  obtain ⟨p, hP, h⟩ := Option.bind_eq_some_iff.mp h
  have HR := Aside0.mk hr0_0
  have HC := Aside0.mk hc0_0
  have HR3 := Aside0.mk hr3
  have HC3 := Aside0.mk hc3
  have hb3 := Try.underlying36
  have HP := Aside0.mk hP
  have HH := Aside0.mk h
  have hut := Try.underlying24
  have hun := Try.underlying45
  have hsi := Try.underlying88
  have HW := Aside0.mk (treeW_below w A0_0 l0_0.length c0_0)
  have HW0 := Aside0.mk (Below.refl (treeW w A0_0 l0_0.length c0_0).heap.size (treeW w A0_0 l0_0.length c0_0))
  clear hr0_0 hc0_0 hr3 hc3 hP h
  go_enter Try.func22, Try.ntmps22
  go_upto_region 1 with (fail)
  go_cut [23] (fun v23 wc => v23 = .bool (!p) ∧ Aside0 (Below (treeW w A0_0 l0_0.length c0_0).heap.size (treeW w A0_0 l0_0.length c0_0) wc))
  case first =>
    have hmm := HP.out
    clear HH HP
    unfold linkP at hmm
    obtain ⟨m, hm, hmm⟩ := Option.bind_eq_some_iff.mp hmm
    have HM := Aside0.mk hm
    have HD := Aside0.mk (Kd.R_reads' (R_of_blk (xs := [a1]) (k := .i64) (base := 0) (blk_new (treeW w A0_0 l0_0.length c0_0) (.cells #[.int .i64 a1] 3)) (Nat.zero_le _) (by simp))).2.2
    have hWs : (treeW w A0_0 l0_0.length c0_0).heap.size = w.heap.size + 1 + 1 := by show ((w.alloc _).alloc _).heap.size = _; rw [World.size_alloc, World.size_alloc]
    rw [hWs] at HD
    clear hm hWs
    cases m with
    | false =>
      obtain rfl := Option.some.inj (show some false = some p from hmm)
      clear hmm
      go_wp2_with (first | (go_at_call 40; refine (tree_may.calls k A0_0 c0_0 l0_0 (some ⟨w.heap.size + 1 + 1, 0, none⟩) 1 [a1] false _ (Kd.C_below HR.out (by repeat (first | exact HW.out | exact Below.refl _ _ | apply below_alloc | apply pw_below_drewN | apply below_drew1 | apply below_drew))) HC.out HD.out (by simp) HM.out).mono ?_; rintro e' w1 ⟨rfl, hb⟩; have HB1 := Aside0.mk (below_step (below_alloc HW0.out _) hb); clear hb))
      go_meet
      case rel => exact ⟨rfl, HB1⟩
    | true =>
      obtain ⟨tm, ht, hmm⟩ := Option.bind_eq_some_iff.mp (show ((tree_time.f a4).bind fun tm => some tm) = some p from hmm)
      obtain rfl := Option.some.inj hmm
      have HT := Aside0.mk ht
      clear ht hmm
      go_wp2_with (first | (go_at_call 40; refine (tree_may.calls k A0_0 c0_0 l0_0 (some ⟨w.heap.size + 1 + 1, 0, none⟩) 1 [a1] true _ (Kd.C_below HR.out (by repeat (first | exact HW.out | exact Below.refl _ _ | apply below_alloc | apply pw_below_drewN | apply below_drew1 | apply below_drew))) HC.out HD.out (by simp) HM.out).mono ?_; rintro e' w1 ⟨rfl, hb⟩; have HB1 := Aside0.mk (below_step (below_alloc HW0.out _) hb); clear hb) | (go_at_call 45; refine (tree_time.calls a4 _ _ HT.out).mono ?_; rintro e' w2 ⟨rfl, ⟨nd, rfl⟩⟩))
      go_meet
      case rel => exact ⟨rfl, ⟨by repeat (first | exact HB1.out | exact Below.refl _ _ | apply below_alloc | apply pw_below_drewN | apply below_drew1 | apply below_drew)⟩⟩
  case rest =>
    clear HP HW0
    obtain ⟨rfl, HB⟩ := hcut
    have hct := treeW_cell HB.out
    cases p with
    | false =>
      have hbad : tree_bad.f k l0_0 100 = some (r1, r2) := HH.out
      have HBAD := Aside0.mk hbad
      clear hbad
      go_wp2_with (first | (go_at_call 41; refine (tree_bad.calls k A0_0 c0_0 l0_0 100 r1 r2 _ (Kd.C_below HR.out (below_step HW.out HB.out)) HC.out HBAD.out).mono ?_; rintro e' w1 ⟨v, rfl, hS, hb⟩; obtain ⟨vA, vc, rfl⟩ := Kd.S_slice hS; have HS1 := Aside0.mk hS; have HB1 := Aside0.mk (below_step HB.out hb); have HK := Aside0.mk (treeW_blk HB1.out); have hct1 := (blk_cell HK.out.2 0).trans rfl; have hf1 := blk_frozen HK.out.2 0; clear hS hb))
      refine bodyPost_ret (results_ct rfl _ _ (w.heap.size + 1) 24 #[.slice vA r1.length vc] (0, 0) _ rfl (blk_put HK.out.2 0 _ rfl) Try.underlying24 rfl (by kernel_rfl)) rfl ?_
      exact ⟨_, rfl, Kd.S_set (Kd.S_lower HS1.out (below_step HW.out HB.out).size) HK.out.2 (by decide) 0 _, (below_step HW.out HB1.out).setCell (p := ⟨w.heap.size + 1, 0, none⟩) (by show _ ≤ _ + 1; omega) _⟩
    | true =>
      obtain ⟨e, hE, hq⟩ := Option.bind_eq_some_iff.mp (show ((writeE l0_0 a1 a2 l3).bind fun e => (if e = 0 then (tree_Own.f k l0_0).bind fun u => (writeD u a1 a2 l3 a4).bind fun r => some (r, 0) else tree_bad.f k l0_0 e)) = some (r1, r2) from HH.out)
      have HQ := Aside0.mk hq
      obtain ⟨e0, hd, hE⟩ := Option.bind_eq_some_iff.mp hE
      have HE := Aside0.mk (Option.some.inj hE)
      have HD := Aside0.mk hd
      clear HH hq hE hd
      go_upto_block 0 with (first | (go_at_call 46; refine (tree_file.calls A0_0 c0_0 l0_0 a1 e0 _ (Kd.C_below HR.out (below_step HW.out HB.out)) HC.out HD.out).mono ?_; rintro e' w1 ⟨rfl, hb⟩; have HB1 := Aside0.mk (below_step HB.out hb); have hct1 := treeW_cell HB1.out; clear hb))
      clear HB hct
      go_cut [12] (fun v12 wc => v12 = .int .i64 e ∧ Aside0 (Below (treeW w A0_0 l0_0.length c0_0).heap.size (treeW w A0_0 l0_0.length c0_0) wc))
      case first =>
        clear HQ
        have hE := HE.out
        by_cases y1 : e0 = 0
        · have Y1 : (e0 != 0) = false := by simpa using y1
          rw [if_pos y1] at hE
          clear HE
          by_cases y2 : a2 < 0
          · have Y2 : decide (a2 < 0) = true := decide_eq_true y2
            rw [if_pos y2] at hE
            subst hE
            clear y1 y2
            go_wp2
            go_meet
            case rel => exact ⟨rfl, HB1⟩
          · have Y2 : decide (a2 < 0) = false := decide_eq_false y2
            rw [if_neg y2] at hE
            by_cases y3 : 16384 < a2
            · have Y3 : decide (16384 < a2) = true := decide_eq_true y3
              rw [if_pos y3] at hE
              subst hE
              clear y1 y2 y3
              go_wp2
              go_meet
              case rel => exact ⟨rfl, HB1⟩
            · have Y3 : decide (16384 < a2) = false := decide_eq_false y3
              rw [if_neg y3] at hE
              have hq0 : 0 ≤ a2 := by omega
              have hq1 : a2 ≤ 16384 := by omega
              have hm3 := HR3.out.2.1
              by_cases y4 : 16384 - a2 < (l3.length : Int)
              · have Y5 : decide (16384 - a2 < (l3.length : Int)) = true := decide_eq_true y4
                rw [if_pos y4] at hE
                subst hE
                clear y1 y2 y3 y4
                go_wp2
                go_meet
                case rel => exact ⟨rfl, HB1⟩
              · have Y5 : decide (16384 - a2 < (l3.length : Int)) = false := decide_eq_false y4
                rw [if_neg y4] at hE
                subst hE
                have Y4 := Aside0.mk y1
                clear y1 y2 y3 y4
                go_wp2
                go_meet
                case rel => exact ⟨by rw [Y4.out], HB1⟩
        · have Y1 : (e0 != 0) = true := by simpa using y1
          rw [if_neg y1] at hE
          subst hE
          clear HE y1
          go_wp2
          go_meet
          case rel => exact ⟨rfl, HB1⟩
      case rest =>
        clear HE HD hct1 HB1
        obtain ⟨rfl, HB⟩ := hcut
        have hct := treeW_cell HB.out
        by_cases z1 : e = 0
        · have Z1 : (e != 0) = false := by simpa using z1
          obtain rfl := z1
          have hq := HQ.out
          rw [if_pos rfl] at hq
          obtain ⟨u, hu, hq⟩ := Option.bind_eq_some_iff.mp hq
          obtain ⟨r, hr, hq⟩ := Option.bind_eq_some_iff.mp hq
          injection (Option.some.inj hq) with hq1 hq2
          subst hq1; subst hq2
          unfold writeD at hr
          split at hr
          · rename_i hg1
            have HADD := Aside0.mk (Option.some.inj hr)
            have HU := Aside0.mk hu
            have HG1 := Aside0.mk hg1
            have HSZ : Aside0 (w.heap.size + 2 ≤ wc.heap.size) := ⟨by have := HB.out.size; have h2 : (treeW w A0_0 l0_0.length c0_0).heap.size = w.heap.size + 1 + 1 := (by show ((w.alloc _).alloc _).heap.size = _; rw [World.size_alloc, World.size_alloc]); omega⟩
            have p0 := eq_true hg1.1
            have p1 := eq_true hg1.2.1
            have hpos : 0 < u.length := by omega
            clear HQ hq hu hr hg1
            go_upto_region 12 with (first | (go_at_call 42; refine (tree_Own.calls k A0_0 c0_0 l0_0 u _ (Kd.C_below HR.out (below_step HW.out HB.out)) HC.out HU.out).mono ?_; rintro e' w1 ⟨v, rfl, hS, hb⟩; obtain ⟨g, vc, rfl, hgN, hgl, _⟩ := Kd.S_form hS hpos; have HB1 := below_step HB.out hb; have hK := treeW_blk HB1; have hX := boxed hK.1 hK.2 (below_step HW.out HB1) (Kd.S_lower (Kd.S_mono (ok' := (fun k => k ≠ w.heap.size ∧ k ≠ w.heap.size + 1)) (Kd.S_bound hS) (fun k hk => ⟨by have := HSZ.out; have := hk.2.1; omega, by have := HSZ.out; have := hk.2.1; omega⟩)) (below_step HW.out HB.out).size); have hct1 := treeW_cell HB1; have hf1 := blk_frozen hK.1 0; have HK6 := Aside0.mk hX.1; have HK12 := Aside0.mk hX.2.1; have HS1 := Aside0.mk hX.2.2.1; have HB2 := Aside0.mk hX.2.2.2; have hct2 := (blk_cell HK6.out 0).trans rfl; have hf2 := blk_frozen HK6.out 0; clear hS hb hX HB1 hK))
            have hm3 := HR3.out.2.1
            by_cases x3 : l3.length = 0
            · have X3 : decide (0 < l3.length) = false := decide_eq_false (by omega)
              have X3b : decide ((0 : Int) < (l3.length : Int)) = false := decide_eq_false (by omega)
              rw [if_pos x3] at HADD
              have hct12 := (blk_cell HK12.out 0).trans rfl
              have hf12 := blk_frozen HK12.out 0
              clear x3
              go_wp2
              refine bodyPost_ret (results_ct rfl _ _ (w.heap.size + 1) 24 #[.slice (some ⟨g, 0, none⟩) u.length vc] (0, 0) _ rfl (blk_put HK12.out 0 _ rfl) Try.underlying24 rfl (by kernel_rfl)) rfl ?_
              refine ⟨_, rfl, ?_, HB2.out.setCell (p := ⟨w.heap.size + 1, 0, none⟩) (by show _ ≤ _ + 1; omega) _⟩
              rw [← HADD.out]
              exact Kd.S_mono (Kd.S_set HS1.out HK12.out (by decide) 0 _) (fun _ _ => trivial)
            · have X3 : decide (0 < l3.length) = true := decide_eq_true (by omega)
              have X3b : decide ((0 : Int) < (l3.length : Int)) = true := decide_eq_true (by omega)
              rw [if_neg x3] at HADD
              have HX3 := Aside0.mk (show 0 < l3.length by omega)
              obtain ⟨t, rfl⟩ : ∃ t : Nat, a2 = (t : Int) := ⟨a2.toNat, by have := HG1.out.2.2.1; omega⟩
              rw [Int.toNat_natCast] at HADD
              clear x3
              go_upto_region 14 with (fail)
              have hbs := HB2.out.size
              obtain ⟨dA, dm, hdc, hdm, hdC, hokg, hgl2, hbg, hrub⟩ := data_anew HS1.out a1 HG1.out.1 HG1.out.2.1 hbs (fun q hq => ⟨by have := blk_lt HK12.out; omega, by have := blk_lt HK12.out; omega⟩)
              have hf1m : (rd_T45 u a1).f1.length ≤ 1000000 := HG1.out.2.2.2.2.2
              have ht1 : t ≤ 16384 := by have := HG1.out.2.2.2.1; omega
              have hl1 : l3.length ≤ 16384 := HG1.out.2.2.2.2.1
              obtain ⟨M, hM⟩ : ∃ M : Nat, M = max (rd_T45 u a1).f1.length (t + l3.length) := ⟨_, rfl⟩
              have hwr : IntKind.i64.wrap ((t : Int) + (l3.length : Int)) = (t : Int) + (l3.length : Int) := by rw [i64_w]; unfold wrap64; omega
              have hMx : (((rd_T45 u a1).f1.length : Int) < IntKind.i64.wrap ((t : Int) + (l3.length : Int)) ∧ IntKind.i64.wrap ((t : Int) + (l3.length : Int)) = (M : Int)) ∨ (¬ ((rd_T45 u a1).f1.length : Int) < IntKind.i64.wrap ((t : Int) + (l3.length : Int)) ∧ ((rd_T45 u a1).f1.length : Int) = (M : Int)) := by
                rw [hwr, hM, Nat.max_def]; split <;> omega
              have hM1 : (rd_T45 u a1).f1.length ≤ M := by rw [hM]; exact Nat.le_max_left _ _
              have hM2 : t + l3.length ≤ M := by rw [hM]; exact Nat.le_max_right _ _
              have hM3 : M ≤ 1100000 := by rw [hM, Nat.max_def]; split <;> omega
              have HM := Aside0.mk hM
              have hsz : tree_sized.f (rd_T45 u a1).f1 (M : Int) = some (sizedL (rd_T45 u a1).f1 M) := by
                unfold tree_sized.f
                rw [if_pos (by omega), if_pos (by omega), Int.toNat_natCast]
              have HZ := Aside0.mk hsz
              obtain ⟨cells, hgb⟩ : ∃ cells : Array Value, (w1.setCell ⟨w.heap.size, 0, none⟩ (.slice (some ⟨g, 0, none⟩) u.length vc)).heap[g]? = some (.cells cells 45 (0, 0)) := by
                obtain ⟨g', cap', e', _, _, cells, hgb⟩ := Kd.S_form HS1.out (by omega)
                injection e' with e1 _ _
                injection e1 with e1
                injection e1 with e1
                subst e1
                exact ⟨cells, hgb⟩
              have HGBK := Aside0.mk hgb
              have HDA := Aside0.mk (show _ ∧ _ ∧ _ ∧ _ from ⟨hdm, hdC, hokg, hbg⟩)
              have HGL := Aside0.mk hgl2
              have hct2 := (blk_cell HK6.out 0).trans rfl
              clear hdm hdC hokg hgl2 hbg hbs hM hsz hgb hwr hrub
              rcases hMx with ⟨x5, hMx⟩ | ⟨x5, hMx⟩
              all_goals
                have x6 := x5
                rw [i64_w] at x6
                try rw [i64_w] at hMx
                have HMX := Aside0.mk hMx
                clear hMx
                refine start_ (n := 19) (S := fun w' => w'.cell? ⟨w.heap.size, 0, none⟩ = some (.slice (some ⟨g, 0, none⟩) u.length vc) ∧ w'.cell? ⟨g, a1.toNat * 6 + 1, none⟩ = some (.slice dA (rd_T45 u a1).f1.length dm)) (ds := [18]) #[false, false, false, false, false, false, false, false, false, false, false, false, false, false, false, false, false, false, false] (by kernel_rfl) rfl rfl ⟨hct2, hdc⟩ (fun hHeld => ?_)
                refine pure_ (i := 0) (N := some 63) (v := ?_) (a' := ?_) #[true, false, false, false, false, false, false, false, false, false, false, false, false, false, false, false, false, false, false] rfl rfl (by kernel_rfl) (fun _ _ _ h => h) (Or.inl ⟨by rfl, ?_⟩) ?_ ?_
                rotate_left
                · intro w'
                  go_simp
                  with_reducible rfl
                rotate_left
                · simp only [Act.put, List.setIfInBounds_toArray, List.set_cons_zero, List.set_cons_succ, i64_w, i32_w]
                  rfl
                refine pure_ (i := 1) (N := some 64) (v := ?_) (a' := ?_) #[true, true, false, false, false, false, false, false, false, false, false, false, false, false, false, false, false, false, false] rfl rfl (by kernel_rfl) (fun _ _ _ h => h) (Or.inl ⟨by rfl, ?_⟩) ?_ ?_
                rotate_left
                · intro w'
                  go_simp
                  with_reducible rfl
                rotate_left
                · simp only [Act.put, List.setIfInBounds_toArray, List.set_cons_zero, List.set_cons_succ, i64_w, i32_w]
                  rfl
                refine pure_ (i := 2) (N := some 65) (v := ?_) (a' := ?_) #[true, true, true, false, false, false, false, false, false, false, false, false, false, false, false, false, false, false, false] rfl rfl (by kernel_rfl) (fun _ _ _ h => h) (Or.inl ⟨by rfl, ?_⟩) ?_ ?_
                rotate_left
                · intro w'
                  go_simp
                  with_reducible rfl
                rotate_left
                · simp only [Act.put, List.setIfInBounds_toArray, List.set_cons_zero, List.set_cons_succ, i64_w, i32_w]
                  rfl
                refine pure_ (i := 3) (N := some 66) (v := ?_) (a' := ?_) #[true, true, true, true, false, false, false, false, false, false, false, false, false, false, false, false, false, false, false] rfl rfl (by kernel_rfl) (fun _ _ _ h => h) (Or.inl ⟨by rfl, ?_⟩) ?_ ?_
                rotate_left
                · intro w'
                  go_simp
                  with_reducible rfl
                rotate_left
                · simp only [Act.put, List.setIfInBounds_toArray, List.set_cons_zero, List.set_cons_succ, i64_w, i32_w]
                  rfl
                refine pure_ (i := 5) (N := some 68) (v := ?_) (a' := ?_) #[true, true, true, true, false, true, false, false, false, false, false, false, false, false, false, false, false, false, false] rfl rfl (by kernel_rfl) (fun _ _ _ h => h) (Or.inl ⟨by rfl, ?_⟩) ?_ ?_
                rotate_left
                · intro w'
                  go_simp
                  with_reducible rfl
                rotate_left
                · simp only [Act.put, List.setIfInBounds_toArray, List.set_cons_zero, List.set_cons_succ, i64_w, i32_w]
                  rfl
                refine pure_ (i := 6) (N := some 69) (v := ?_) (a' := ?_) #[true, true, true, true, false, true, true, false, false, false, false, false, false, false, false, false, false, false, false] rfl rfl (by kernel_rfl) (fun _ _ _ h => h) (Or.inl ⟨by rfl, ?_⟩) ?_ ?_
                rotate_left
                · intro w'
                  go_simp
                  with_reducible rfl
                rotate_left
                · simp only [Act.put, List.setIfInBounds_toArray, List.set_cons_zero, List.set_cons_succ, i64_w, i32_w]
                  rfl
                refine pure_ (i := 7) (N := some 70) (v := ?_) (a' := ?_) #[true, true, true, true, false, true, true, true, false, false, false, false, false, false, false, false, false, false, false] rfl rfl (by kernel_rfl) (fun _ _ _ h => h) (Or.inl ⟨by rfl, ?_⟩) ?_ ?_
                rotate_left
                · intro w'
                  go_simp
                  with_reducible rfl
                rotate_left
                · simp only [Act.put, List.setIfInBounds_toArray, List.set_cons_zero, List.set_cons_succ, i64_w, i32_w]
                  rfl
                refine pure_ (i := 10) (N := some 73) (v := ?_) (a' := ?_) #[true, true, true, true, false, true, true, true, false, false, true, false, false, false, false, false, false, false, false] rfl rfl (by kernel_rfl) (fun _ _ _ h => h) (Or.inl ⟨by rfl, ?_⟩) ?_ ?_
                rotate_left
                · intro w'
                  go_simp
                  with_reducible rfl
                rotate_left
                · simp only [Act.put, List.setIfInBounds_toArray, List.set_cons_zero, List.set_cons_succ, i64_w, i32_w]
                  rfl
                refine pure_ (i := 11) (N := some 74) (v := ?_) (a' := ?_) #[true, true, true, true, false, true, true, true, false, false, true, true, false, false, false, false, false, false, false] rfl rfl (by kernel_rfl) (fun _ _ _ h => h) (Or.inl ⟨by rfl, ?_⟩) ?_ ?_
                rotate_left
                · intro w'
                  go_simp
                  with_reducible rfl
                rotate_left
                · simp only [Act.put, List.setIfInBounds_toArray, List.set_cons_zero, List.set_cons_succ, i64_w, i32_w]
                  rfl
                refine pure_ (i := 12) (N := some 75) (v := ?_) (a' := ?_) #[true, true, true, true, false, true, true, true, false, false, true, true, true, false, false, false, false, false, false] rfl rfl (by kernel_rfl) (fun _ _ _ h => h) (Or.inl ⟨by rfl, ?_⟩) ?_ ?_
                rotate_left
                · intro w'
                  go_simp
                  with_reducible rfl
                rotate_left
                · simp only [Act.put, List.setIfInBounds_toArray, List.set_cons_zero, List.set_cons_succ, i64_w, i32_w]
                  rfl
                refine pure_ (i := 13) (N := some 76) (v := ?_) (a' := ?_) #[true, true, true, true, false, true, true, true, false, false, true, true, true, true, false, false, false, false, false] rfl rfl (by kernel_rfl) (fun _ _ _ h => h) (Or.inl ⟨by rfl, ?_⟩) ?_ ?_
                rotate_left
                · intro w'
                  go_simp
                  with_reducible rfl
                rotate_left
                · simp only [Act.put, List.setIfInBounds_toArray, List.set_cons_zero, List.set_cons_succ, i64_w, i32_w]
                  rfl
                refine take_ (i := 4) (N := some 67) (v := ?_) (a' := ?_) #[true, true, true, true, true, true, true, true, false, false, true, true, true, true, false, false, false, false, false] rfl rfl (by kernel_rfl) (fun _ _ _ h => h) (Or.inl ⟨by rfl, ?_⟩) hHeld ?_ ?_
                rotate_left
                · rintro w' ⟨s0, s1⟩
                  go_simp
                  with_reducible rfl
                rotate_left
                · simp only [Act.put, List.setIfInBounds_toArray, List.set_cons_zero, List.set_cons_succ, i64_w, i32_w]
                  rfl
                refine take_ (i := 8) (N := some 71) (v := ?_) (a' := ?_) #[true, true, true, true, true, true, true, true, true, false, true, true, true, true, false, false, false, false, false] rfl rfl (by kernel_rfl) (fun _ _ _ h => h) (Or.inl ⟨by rfl, ?_⟩) hHeld ?_ ?_
                rotate_left
                · rintro w' ⟨s0, s1⟩
                  go_simp
                  with_reducible rfl
                rotate_left
                · simp only [Act.put, List.setIfInBounds_toArray, List.set_cons_zero, List.set_cons_succ, i64_w, i32_w]
                  rfl
                refine pure_ (i := 9) (N := some 72) (v := ?_) (a' := ?_) #[true, true, true, true, true, true, true, true, true, true, true, true, true, true, false, false, false, false, false] rfl rfl (by kernel_rfl) (fun _ _ _ h => h) (Or.inl ⟨by rfl, ?_⟩) ?_ ?_
                rotate_left
                · intro w'
                  go_simp
                  with_reducible rfl
                rotate_left
                · simp only [Act.put, List.setIfInBounds_toArray, List.set_cons_zero, List.set_cons_succ, i64_w, i32_w]
                  rfl
                refine pure_ (i := 14) (N := some 77) (v := ?_) (a' := ?_) #[true, true, true, true, true, true, true, true, true, true, true, true, true, true, true, false, false, false, false] rfl rfl (by kernel_rfl) (fun _ _ _ h => h) (Or.inl ⟨by rfl, ?_⟩) ?_ ?_
                rotate_left
                · intro w'
                  go_simp
                  with_reducible rfl
                rotate_left
                · simp only [Act.put, List.setIfInBounds_toArray, List.set_cons_zero, List.set_cons_succ, i64_w, i32_w]
                  rfl
                refine one_ (i := 15) (N := some 78) #[true, true, true, true, true, true, true, true, true, true, true, true, true, true, true, true, false, false, false] rfl rfl (by kernel_rfl) (by decide) (fun K hK => ?_)
                have CT := tree_sized.blk dA dm (rd_T45 u a1).f1 (M : Int) _ (w1.setCell ⟨w.heap.size, 0, none⟩ (.slice (some ⟨g, 0, none⟩) u.length vc)).drew (Kd.C_drew HDA.out.2.1) HDA.out.1 HZ.out
                simp only [Int.toNat_natCast] at CT
                obtain ⟨gv, hgv⟩ : ∃ gv, gv = (w1.setCell ⟨w.heap.size, 0, none⟩ (.slice (some ⟨g, 0, none⟩) u.length vc)).drew.heap.size := ⟨_, rfl⟩
                have HGV := Aside0.mk hgv
                rw [← hgv] at CT
                refine goes_ Try.func47 (by kernel_rfl) rfl #[.slice dA (rd_T45 u a1).f1.length dm, .int .i64 ((M : Nat) : Int)] (by rfl) rfl rfl (by simp only [List.map_toArray, List.map_cons, List.map_nil]; exact congrArg (fun x => #[Value.slice dA (rd_T45 u a1).f1.length dm, Value.int .i64 x]) HMX.out) ?_
                refine CT.mono ?_
                rintro e' w3 ⟨rfl, hg3, hb3⟩
                clear CT hgv
                have hb4 : Below (w1.setCell ⟨w.heap.size, 0, none⟩ (.slice (some ⟨g, 0, none⟩) u.length vc)).heap.size (w1.setCell ⟨w.heap.size, 0, none⟩ (.slice (some ⟨g, 0, none⟩) u.length vc)) w3 := below_step (below_drew (Below.refl _ _)) (by rw [HGV.out] at hb3; exact hb3)
                have HB4 := Aside0.mk hb4
                have HG3 := Aside0.mk hg3
                have HK6b := Aside0.mk (blk_below HK6.out hb4)
                have HK12b := Aside0.mk (blk_below HK12.out hb4)
                have HGB3 := Aside0.mk (blk_below HGBK.out hb4)
                have hct3 := (blk_cell HK6b.out 0).trans rfl
                have hdc3 := (hb4.cell (World.block_lt_of_cell? _ _ hdc)).trans hdc
                have hfr3 := blk_frozen HGB3.out (a1.toNat * 6 + 1)
                have HK6c := Aside0.mk (blk_far HK6b.out (p := ⟨g, a1.toNat * 6 + 1, none⟩) (fun e => HDA.out.2.2.1.1 e.symm) (.slice (some ⟨gv, 0, none⟩) M M))
                have HK12c := Aside0.mk (blk_far HK12b.out (p := ⟨g, a1.toNat * 6 + 1, none⟩) (fun e => HDA.out.2.2.1.2 e.symm) (.slice (some ⟨gv, 0, none⟩) M M))
                have hct4 := (blk_cell HK6c.out 0).trans rfl
                have hdc4 : (w3.setCell ⟨g, a1.toNat * 6 + 1, none⟩ (.slice (some ⟨gv, 0, none⟩) M M)).cell? ⟨g, a1.toNat * 6 + 1, none⟩ = some (.slice (some ⟨gv, 0, none⟩) M M) := (by first | exact World.cell?_setCell_same _ _ _ hdc3 | exact World.cell?_setCell_same _ _ hdc3 | exact World.cell?_setCell_same' _ _ _ (by rw [hdc3]; rfl))
                clear hg3 hb3 hb4
                refine ⟨_, rfl, ?_⟩
                refine hK.out _ _ ⟨hct3, hdc3⟩ (fun hHeld => ?_)
                clear hK K
                refine norm_ (a' := ?_) ?_ ?_
                rotate_left
                · show Act.put _ (some 78) _ = _
                  simp only [Act.put, List.setIfInBounds_toArray, List.set_cons_zero, List.set_cons_succ, i64_w, i32_w]
                  rfl
                refine pure_ (i := 16) (N := some 79) (v := ?_) (a' := ?_) #[true, true, true, true, true, true, true, true, true, true, true, true, true, true, true, true, true, false, false] rfl rfl (by kernel_rfl) (fun _ _ _ h => h) (Or.inl ⟨by rfl, ?_⟩) ?_ ?_
                rotate_left
                · intro w'
                  go_simp
                  with_reducible rfl
                rotate_left
                · simp only [Act.put, List.setIfInBounds_toArray, List.set_cons_zero, List.set_cons_succ, i64_w, i32_w]
                  rfl
                refine pure_ (i := 17) (N := some 80) (v := ?_) (a' := ?_) #[true, true, true, true, true, true, true, true, true, true, true, true, true, true, true, true, true, true, false] rfl rfl (by kernel_rfl) (fun _ _ _ h => h) (Or.inl ⟨by rfl, ?_⟩) ?_ ?_
                rotate_left
                · intro w'
                  go_simp
                  with_reducible rfl
                rotate_left
                · simp only [Act.put, List.setIfInBounds_toArray, List.set_cons_zero, List.set_cons_succ, i64_w, i32_w]
                  rfl
                refine last_ (i := 18) (N := none) #[true, true, true, true, true, true, true, true, true, true, true, true, true, true, true, true, true, true, true] rfl rfl (by kernel_rfl) (by decide) (fun K hK => ?_)
                refine skip_ (w1 := ?_) (by rfl) rfl ?_ ?_
                rotate_left
                · go_simp
                  rfl
                refine hK.out _ _ ?_
                clear hK K
                refine done_ (by kernel_rfl) ?_
                all_goals
                  have HW4 := Aside0.mk ((below_step HB2.out HB4.out).setCell (p := ⟨g, a1.toNat * 6 + 1, none⟩) HDA.out.2.2.2 (.slice (some ⟨gv, 0, none⟩) M M))
                  have hgvs : (w1.setCell ⟨w.heap.size, 0, none⟩ (.slice (some ⟨g, 0, none⟩) u.length vc)).heap.size ≤ gv := by rw [HGV.out]; exact Nat.le_refl _
                  have HGS := Aside0.mk hgvs
                  have HG4 := Aside0.mk (blk_far HG3.out (p := ⟨g, a1.toNat * 6 + 1, none⟩) (by show gv ≠ g; have := HGL.out; omega) (.slice (some ⟨gv, 0, none⟩) M M))
                  obtain ⟨i0, hi0, _, hsz8, _⟩ := info_parts info5
                  have hcut := cut_from (P := Try.prog) 36 5 .i64 Try.underlying36 hi0 1 hsz8 (some ⟨gv, 0, none⟩) M M (t : Int) (by omega) (by omega)
                  rw [Int.toNat_natCast, if_neg (show ¬ M = t by have := HX3.out; omega), show Option.map (fun x : Addr => x.add (t * 1)) (some ⟨gv, 0, none⟩) = some ⟨gv, t, none⟩ by simp [Addr.add]; exact fun h => h.symm] at hcut
                  have hMt := eq_false (show ¬ M = t by have := HX3.out; omega)
                  clear hi0 hsz8 hgvs
                  go_upto_region 16 with (first | (with_reducible refine wpList_copy_nums rfl (.tmp 86) (.tmp 87) 36 36 rfl 5 Try.underlying36 (by kernel_rfl) .u8 (some ⟨gv, t, none⟩) A3 (M - t) (M - t) l3.length c3 rfl rfl gv t (sizedL (rd_T45 u a1).f1 M) l3 5 ?hg ?hy ?hd ?hf gv (w3.setCell ⟨g, a1.toNat * 6 + 1, none⟩ (.slice (some ⟨gv, 0, none⟩) M M)) ?hb (Nat.le_refl _) ?_; (case hg => exact HG4.out); (case hy => exact Kd.C_below HR3.out HW4.out); (case hd => exact fun _ => rfl); (case hf => rw [length_sizedL]; omega); (case hb => exact Below.refl _ _); intro w5 HG5 HB5))
                  have hk5 : Kept (w3.setCell ⟨g, a1.toNat * 6 + 1, none⟩ (.slice (some ⟨gv, 0, none⟩) M M)) w5 (fun k => (w1.setCell ⟨w.heap.size, 0, none⟩ (.slice (some ⟨g, 0, none⟩) u.length vc)).heap.size ≤ k) := ⟨HB5.size, fun i _ hn => HB5.block i (by have := HGS.out; omega)⟩
                  have hs5 := HG5.out
                  rw [List.take_of_length_le (show l3.length ≤ M - t by omega)] at hs5
                  have hlen5 : (splice (sizedL (rd_T45 u a1).f1 M) t l3).length = M := by rw [length_splice _ _ _ (by rw [length_sizedL]; omega), length_sizedL]
                  have hR5 := R_of_blk hs5 HGS.out (by rw [hlen5]; omega)
                  rw [hlen5] at hR5
                  obtain ⟨⟨u5, hu5⟩, hfr5, hfin⟩ := data_twice HS1.out a1 HG1.out.1 HG1.out.2.1 HB2.out.size (fun q hq => ⟨by have := blk_lt HK12.out; omega, by have := blk_lt HK12.out; omega⟩) w3 _ rfl HB4.out w5 hk5 _ hR5
                  have HFIN := Aside0.mk hfin
                  have hlt6 := blk_lt HK6.out
                  have hlt12 := blk_lt HK12.out
                  have HK6e := Aside0.mk ((hk5.2 _ (blk_lt HK6c.out) (by omega)).trans HK6c.out)
                  have HK12e := Aside0.mk ((hk5.2 _ (blk_lt HK12c.out) (by omega)).trans HK12c.out)
                  have hct6 := (blk_cell HK6e.out 0).trans rfl
                  have HK6f := Aside0.mk (blk_far HK6e.out (p := ⟨g, a1.toNat * 6 + 5, none⟩) (fun e => HDA.out.2.2.1.1 e.symm) (.int .i64 a4))
                  have HK12f := Aside0.mk (blk_far HK12e.out (p := ⟨g, a1.toNat * 6 + 5, none⟩) (fun e => HDA.out.2.2.1.2 e.symm) (.int .i64 a4))
                  have hct7 := (blk_cell HK6f.out 0).trans rfl
                  have hct12 := (blk_cell HK12f.out 0).trans rfl
                  have hf12 := blk_frozen HK12f.out 0
                  have HB6 := Aside0.mk (HW4.out.trans (HB5.mono (by have := HGS.out; have := HB2.out.size; omega)))
                  clear hk5 hs5 hR5 hfin hlt6 hlt12
                  go_wp2
                  refine bodyPost_ret (results_ct rfl _ _ (w.heap.size + 1) 24 #[.slice (some ⟨g, 0, none⟩) u.length vc] (0, 0) _ rfl (blk_put HK12f.out 0 _ rfl) Try.underlying24 rfl (by kernel_rfl)) rfl ?_
                  refine ⟨_, rfl, ?_, (HB6.out.setCell (p := ⟨g, a1.toNat * 6 + 5, none⟩) HDA.out.2.2.2 _).setCell (p := ⟨w.heap.size + 1, 0, none⟩) (by show _ ≤ _ + 1; omega) _⟩
                  rw [← HADD.out]
                  unfold wroteB
                  rw [← HM.out]
                  exact Kd.S_mono (Kd.S_set (HFIN.out _) HK12f.out (by decide) 0 _) (fun _ _ => trivial)
          · cases hr
        · have Z1 : (e != 0) = true := by simpa using z1
          have hbad := HQ.out
          rw [if_neg z1] at hbad
          have HBAD := Aside0.mk hbad
          clear hbad
          clear z1
          go_wp2_with (first | (go_at_call 41; refine (tree_bad.calls k A0_0 c0_0 l0_0 e r1 r2 _ (Kd.C_below HR.out (below_step HW.out HB.out)) HC.out HBAD.out).mono ?_; rintro e' w1 ⟨v, rfl, hS, hb⟩; obtain ⟨vA, vc, rfl⟩ := Kd.S_slice hS; have HS1 := Aside0.mk hS; have HB1 := Aside0.mk (below_step HB.out hb); have HK := Aside0.mk (treeW_blk HB1.out); have hct1 := (blk_cell HK.out.2 0).trans rfl; have hf1 := blk_frozen HK.out.2 0; clear hS hb))
          refine bodyPost_ret (results_ct rfl _ _ (w.heap.size + 1) 24 #[.slice vA r1.length vc] (0, 0) _ rfl (blk_put HK.out.2 0 _ rfl) Try.underlying24 rfl (by kernel_rfl)) rfl ?_
          exact ⟨_, rfl, Kd.S_set (Kd.S_lower HS1.out (below_step HW.out HB.out).size) HK.out.2 (by decide) 0 _, (below_step HW.out HB1.out).setCell (p := ⟨w.heap.size + 1, 0, none⟩) (by show _ ≤ _ + 1; omega) _⟩

end Go.Proofs.Ytjghephnjkffcaa.PCk

namespace Go.Proofs.Ytjghephnjkffcaa.PCk
open Go.RowKit Go.Proofs.YtjghephnjkffcaaW.PrintWords Go.Proofs.YtjghephnjkffcaaW.PrintLast Go.Proofs.YtjghephnjkffcaaW.PrintMore
attribute [local go_sem] max2_int min2_int max_two min_two max_three min_three max_four min_four
set_option linter.unusedVariables false
set_option linter.unusedSimpArgs false
-- IMPORT: Derived.Test.@N@DMaysim
-- IMPORT: Derived.Test.@N@DWrite
-- IMPORT: Derived.Test.@N@DRead
-- IMPORT: Derived.Test.@N@DCut
/-! ### What Write, Read, Cut tell of a file's bytes. -/
theorem wroteB_len (old : List Int) (t : Nat) (b : List Int) : (wroteB old t b).length = max old.length (t + b.length) := by
  unfold wroteB; rw [length_splice _ _ _ (by rw [length_sizedL]; omega), length_sizedL]
theorem sizedL_same (l : List Int) : sizedL l l.length = l := by unfold sizedL; simp
theorem readL_all (l : List Int) (n : Nat) (h : l.length ≤ n) : readL l 0 n = l := by
  unfold readL; rw [Nat.zero_min, List.drop_zero, Nat.sub_zero, Nat.min_eq_right h, List.take_length]
theorem readL_wrote (old : List Int) (t : Nat) (b : List Int) (hb : 0 < b.length) : readL (wroteB old t b) t b.length = b := by
  unfold readL
  rw [wroteB_len, Nat.min_eq_left (show t ≤ max old.length (t + b.length) by omega), Nat.min_eq_left (show b.length ≤ max old.length (t + b.length) - t by omega)]
  unfold wroteB splice
  rw [List.drop_append_of_le_length (by rw [List.length_take, length_sizedL]; omega), List.drop_of_length_le (by rw [List.length_take, length_sizedL]; omega), List.nil_append, List.take_append_of_le_length (Nat.le_refl _), List.take_length]
theorem sizedL_rd (l : List Int) (n i : Nat) (hi : i < n) : rd (sizedL l n) (i : Int) = if i < l.length then rd l (i : Int) else 0 := by
  unfold rd sizedL
  rw [Int.toNat_natCast, List.getD_eq_getElem?_getD, List.getD_eq_getElem?_getD]
  by_cases h : i < l.length
  · rw [if_pos h, List.getElem?_append_left (by rw [List.length_take]; omega), List.getElem?_take, if_pos hi]
  · rw [if_neg h, List.getElem?_append_right (by rw [List.length_take]; omega), List.getElem?_replicate]
    split <;> rfl
theorem wroteB_rd (old : List Int) (t : Nat) (b : List Int) (i : Nat) (hi : i < max old.length (t + b.length)) (ho : ¬ (t ≤ i ∧ i < t + b.length)) : rd (wroteB old t b) (i : Int) = if i < old.length then rd old (i : Int) else 0 := by
  rw [← sizedL_rd old (max old.length (t + b.length)) i hi]
  have hL := length_sizedL old (max old.length (t + b.length))
  unfold wroteB
  generalize sizedL old (max old.length (t + b.length)) = z at hL ⊢
  unfold rd splice
  rw [Int.toNat_natCast, List.getD_eq_getElem?_getD, List.getD_eq_getElem?_getD]
  by_cases h : i < t
  · rw [List.getElem?_append_left (by rw [List.length_take]; omega), List.getElem?_take, if_pos h]
  · rw [List.getElem?_append_right (by rw [List.length_take]; omega), List.length_take, List.getElem?_append_right (by omega), List.getElem?_drop]
    congr 2
    omega
theorem linkP_ev {l : List S45} (hm : Ev (fun k => tree_May.f k l) true) (n : Nat) (hn : n < l.length) (hk : (rd_T45 l (n : Int)).f0 = 1) (t : Int) (ht : TimeP t) : Ev (fun k => linkP k l [(n : Int)] t) true := by
  have h := mayN_ev hm [(n : Int)]
  rw [show ([(n : Int)].all fun n => hasB l n) = true by simp [hasB_nat l n hn, hk], Bool.and_true] at h
  unfold linkP
  refine Ev.bind (f := fun _ m => if m = true then (tree_time.f t).bind fun tm => some tm else some false) h (Ev.congr (fun _ => if_pos rfl) ?_)
  obtain ⟨b, hb, hbt⟩ := tree_time_ t
  rw [hb, hbt.2 ht]; exact Ev.now _
theorem file_ok (l : List S45) (n : Nat) (hn : n < l.length) (hk : (rd_T45 l (n : Int)).f0 = 1) : tree_file.f l (n : Int) = some 0 := by
  unfold tree_file.f
  rw [if_pos (by omega), if_pos (by omega), hk]; rfl
def wroteT (l : List S45) (n : Nat) (d : List Int) (now : Int) : List S45 := l.set n { rd_T45 l (n : Int) with f1 := d, f5 := now }
theorem wroteT_len (l : List S45) (n : Nat) (d : List Int) (now : Int) : (wroteT l n d now).length = l.length := List.length_set
theorem wroteT_rd (l : List S45) (n : Nat) (hn : n < l.length) (d : List Int) (now : Int) : rd_T45 (wroteT l n d now) (n : Int) = { rd_T45 l (n : Int) with f1 := d, f5 := now } := by
  show (l.set n _).getD (n : Int).toNat _ = _
  rw [Int.toNat_natCast, List.getD_eq_getElem?_getD, List.getElem?_set]; simp [hn]
theorem wroteT_twice (l : List S45) (n : Nat) (hn : n < l.length) (d : List Int) (now : Int) : wroteT (wroteT l n d now) n d now = wroteT l n d now := by
  show (wroteT l n d now).set n { rd_T45 (wroteT l n d now) (n : Int) with f1 := d, f5 := now } = wroteT l n d now
  rw [wroteT_rd l n hn]
  unfold wroteT
  rw [List.set_set]
def writeW (at_ : Int) (b : List Int) : Int := if 16384 < at_ then 22 else if 16384 - at_ < (b.length : Int) then 22 else 0
theorem write_ev {l : List S45} (hl : l.length < 1599289640401) (hf : Fits l) (hm : Ev (fun k => tree_May.f k l) true) (n : Nat) (hn : n < l.length) (hk : (rd_T45 l (n : Int)).f0 = 1) (at_ : Int) (h0 : 0 ≤ at_) (b : List Int) (t : Int) (ht : TimeP t) :
    Ev (fun k => tree_Write.f k l (n : Int) at_ b t) (if writeW at_ b = 0 ∧ b.length ≠ 0 then wroteT l n (wroteB (rd_T45 l (n : Int)).f1 at_.toNat b) t else l, writeW at_ b) := by
  unfold tree_Write.f
  refine Ev.bind (f := fun k p => if p = true then (writeE l (n : Int) at_ b).bind fun e => (if e = 0 then (tree_Own.f k l).bind fun u => (writeD u (n : Int) at_ b t).bind fun r => some (r, 0) else tree_bad.f k l e) else tree_bad.f k l 100) (linkP_ev hm n hn hk t ht) (Ev.congr (fun _ => if_pos rfl) ?_)
  have he : writeE l (n : Int) at_ b = some (writeW at_ b) := by
    unfold writeE; rw [file_ok l n hn hk]; show some (if (0 : Int) = 0 then _ else _) = _; rw [if_pos rfl, if_neg (by omega)]; rfl
  rw [he]
  have hd : (rd_T45 l (n : Int)).f1.length ≤ 16384 := by
    rcases (may_nodes hf hm n hn).1 with q | q | q | q
    · rw [hk] at q; exact absurd q.1 (by decide)
    · exact q.2.2.1
    · rw [hk] at q; exact absurd q.1 (by decide)
    · rw [hk] at q; exact absurd q.1 (by decide)
  by_cases hw : writeW at_ b = 0
  · refine Ev.congr (fun k => show (if writeW at_ b = 0 then (tree_Own.f k l).bind fun u => (writeD u (n : Int) at_ b t).bind fun r => some (r, 0) else tree_bad.f k l (writeW at_ b)) = _ from if_pos hw) (Ev.bind (f := fun _ u => (writeD u (n : Int) at_ b t).bind fun r => some (r, 0)) (own_ev l hl hf.n) ?_)
    have hw' := hw
    unfold writeW at hw'
    have h1 : ¬ 16384 < at_ := fun h => by rw [if_pos h] at hw'; cases hw'
    rw [if_neg h1] at hw'
    have h2 : ¬ 16384 - at_ < (b.length : Int) := fun h => by rw [if_pos h] at hw'; cases hw'
    unfold writeD
    rw [if_pos ⟨by omega, by omega, h0, by omega, by omega, by omega⟩, hw, Int.toNat_natCast]
    by_cases hb : b.length = 0
    · rw [if_pos hb, if_neg (fun h => h.2 hb)]; exact Ev.now _
    · rw [if_neg hb, if_pos ⟨rfl, hb⟩]; exact Ev.now _
  · refine Ev.congr (fun k => show (if writeW at_ b = 0 then (tree_Own.f k l).bind fun u => (writeD u (n : Int) at_ b t).bind fun r => some (r, 0) else tree_bad.f k l (writeW at_ b)) = _ from if_neg hw) ?_
    rw [if_neg (fun h => hw h.1)]
    exact bad_ev hl hf.n _ (fun _ => hm)
theorem read_ev {l : List S45} (hf : Fits l) (hm : Ev (fun k => tree_May.f k l) true) (n : Nat) (hn : n < l.length) (hk : (rd_T45 l (n : Int)).f0 = 1) (at_ m : Int) (h0 : 0 ≤ at_) (h1 : 0 ≤ m) :
    Ev (fun k => tree_Read.f k l (n : Int) at_ m) (readL (rd_T45 l (n : Int)).f1 at_.toNat m.toNat, 0) := by
  have h := mayN_ev hm [(n : Int)]
  rw [show ([(n : Int)].all fun n => hasB l n) = true by simp [hasB_nat l n hn, hk], Bool.and_true] at h
  have hd : (rd_T45 l (n : Int)).f1.length ≤ 16384 := by
    rcases (may_nodes hf hm n hn).1 with q | q | q | q
    · rw [hk] at q; exact absurd q.1 (by decide)
    · exact q.2.2.1
    · rw [hk] at q; exact absurd q.1 (by decide)
    · rw [hk] at q; exact absurd q.1 (by decide)
  unfold tree_Read.f
  refine Ev.bind (f := fun _ m' => if m' = true then (tree_file.f l (n : Int)).bind fun e => (if e = 0 then (if at_ < 0 then some ([], 28) else if m < 0 then some ([], 28) else if 0 ≤ (n : Int) ∧ (n : Int) < (l.length : Int) ∧ (rd_T45 l (n : Int)).f1.length ≤ 1000000 then some (readL (rd_T45 l (n : Int)).f1 at_.toNat m.toNat, 0) else none) else some ([], e)) else some ([], 100)) h (Ev.congr (fun _ => if_pos rfl) ?_)
  rw [file_ok l n hn hk]
  exact Ev.congr (fun _ => by rw [Option.bind_some, if_pos rfl, if_neg (by omega), if_neg (by omega), if_pos ⟨by omega, by omega, by omega⟩]) (Ev.now _)
theorem cut_ev {l : List S45} (hl : l.length < 1599289640401) (hf : Fits l) (hm : Ev (fun k => tree_May.f k l) true) (n : Nat) (hn : n < l.length) (hk : (rd_T45 l (n : Int)).f0 = 1) (m : Nat) (h1 : m ≤ 16384) (t : Int) (ht : TimeP t) :
    Ev (fun k => tree_Cut.f k l (n : Int) (m : Int) t) (wroteT l n (sizedL (rd_T45 l (n : Int)).f1 m) t, 0) := by
  unfold tree_Cut.f
  refine Ev.bind (f := fun k p => if p = true then (cutE l (n : Int) (m : Int)).bind fun e => (if e = 0 then (tree_Own.f k l).bind fun u => (cutD u (n : Int) (m : Int) t).bind fun r => some (r, 0) else tree_bad.f k l e) else tree_bad.f k l 100) (linkP_ev hm n hn hk t ht) (Ev.congr (fun _ => if_pos rfl) ?_)
  have he : cutE l (n : Int) (m : Int) = some 0 := by
    unfold cutE; rw [file_ok l n hn hk]; show some (if (0 : Int) = 0 then _ else _) = _; rw [if_pos rfl, if_neg (by omega), if_neg (by omega)]
  rw [he]
  refine Ev.congr (fun k => show (if (0 : Int) = 0 then (tree_Own.f k l).bind fun u => (cutD u (n : Int) (m : Int) t).bind fun r => some (r, 0) else tree_bad.f k l 0) = _ from if_pos rfl) (Ev.bind (f := fun _ u => (cutD u (n : Int) (m : Int) t).bind fun r => some (r, 0)) (own_ev l hl hf.n) ?_)
  unfold cutD
  rw [if_pos ⟨by omega, by omega, by omega, by omega⟩, Int.toNat_natCast, Int.toNat_natCast]
  exact Ev.now _

end Go.Proofs.Ytjghephnjkffcaa.PCk

namespace Go.Proofs.Ytjghephnjkffcaa.PCk
open Go.RowKit Go.Proofs.YtjghephnjkffcaaW.PrintWords Go.Proofs.YtjghephnjkffcaaW.PrintLast Go.Proofs.YtjghephnjkffcaaW.PrintMore
attribute [local go_sem] max2_int min2_int max_two min_two max_three min_three max_four min_four
set_option linter.unusedVariables false
set_option linter.unusedSimpArgs false
-- FUNCTION: gangway/tree.Trim
-- IMPORT: Derived.Test.@N@WOwn
end Go.Proofs.Ytjghephnjkffcaa.PCk

namespace Go.Proofs.Ytjghephnjkffcaa.PCk
open Go.RowKit Go.Proofs.YtjghephnjkffcaaW.PrintWords Go.Proofs.YtjghephnjkffcaaW.PrintLast Go.Proofs.YtjghephnjkffcaaW.PrintMore
attribute [local go_sem] max2_int min2_int max_two min_two max_three min_three max_four min_four
set_option linter.unusedVariables false
set_option linter.unusedSimpArgs false
-- FUNCTION: gangway/tree.Free
-- IMPORT: Derived.Test.@N@WOwn
end Go.Proofs.Ytjghephnjkffcaa.PCk

namespace Go.Proofs.Ytjghephnjkffcaa.PCk
open Go.RowKit Go.Proofs.YtjghephnjkffcaaW.PrintWords Go.Proofs.YtjghephnjkffcaaW.PrintLast Go.Proofs.YtjghephnjkffcaaW.PrintMore
attribute [local go_sem] max2_int min2_int max_two min_two max_three min_three max_four min_four
set_option linter.unusedVariables false
set_option linter.unusedSimpArgs false
-- FUNCTION: gangway/gangwaylaw13.TreeFrees
-- IMPORT: Derived.Test.@N@WOwn
-- IMPORT: Derived.Deep.RegionHeld3
theorem two_cells {W : World} {g : Nat} {a b : Value} {t : TypeId} (h : W.heap[g]? = some (.cells #[a, b] t (0, 0))) : W.cell? ⟨g, 0, none⟩ = some a ∧ W.cell? ⟨g, 1, none⟩ = some b := ⟨(blk_cell h 0).trans rfl, (blk_cell h 1).trans rfl⟩
theorem one_cell {W : World} {g : Nat} {a : Value} {t : TypeId} (h : W.heap[g]? = some (.cells #[a] t (0, 0))) : W.cell? ⟨g, 0, none⟩ = some a := (blk_cell h 0).trans rfl
end Go.Proofs.Ytjghephnjkffcaa.PCk

namespace Go.Proofs.Ytjghephnjkffcaa.PCk
open Go.RowKit Go.Proofs.YtjghephnjkffcaaW.PrintWords Go.Proofs.YtjghephnjkffcaaW.PrintLast Go.Proofs.YtjghephnjkffcaaW.PrintMore
attribute [local go_sem] max2_int min2_int max_two min_two max_three min_three max_four min_four
set_option linter.unusedVariables false
set_option linter.unusedSimpArgs false
/-! ### gangwayref13_Is: function 19 -/
def gangwayref13_Is.f (l0_0 : List (S45)) (a1 : Int) : Option (Bool) := if a1 ≥ 0 then (if a1 < (l0_0.length : Int) then (if 0 ≤ a1 then (some (((rd_T45 l0_0 a1).f0) != 0)) else (none)) else (some false)) else (some false)
set_option maxHeartbeats 8000000 in
set_option maxRecDepth 100000 in
theorem gangwayref13_Is.calls (A0_0 : Option Addr) (c0_0 : Nat) (l0_0 : List (S45)) (a1 : Int) (r : Bool) (w : World) (hr0_0 : Kd.C k45 w A0_0 l0_0.length l0_0) (hc0_0 : l0_0.length ≤ c0_0) (h : gangwayref13_Is.f l0_0 a1 = some r) :
    Calls Try.prog 19 #[.agg #[.slice A0_0 l0_0.length c0_0], .int .i64 a1] w fun e w' => e = .returned (.bool r) ∧ Below w.heap.size w w' := by
  have hu24 := Try.underlying24
  have HR0_0 := Aside0.mk hr0_0
  have HC0_0 := Aside0.mk hc0_0
  clear hr0_0 hc0_0
  have HB := Aside0.mk (Below.refl w.heap.size w)
  have H : (if a1 ≥ 0 then (if a1 < (l0_0.length : Int) then (if 0 ≤ a1 then (some (((rd_T45 l0_0 a1).f0) != 0)) else (none)) else (some false)) else (some false)) = some r := h
  clear h
  by_cases c3 : a1 ≥ 0
  · rw [if_pos c3] at H
    have c3b0 : decide (0 ≤ a1) = true := decide_eq_true c3
    clear c3
    by_cases c4 : a1 < (l0_0.length : Int)
    · rw [if_pos c4] at H
      have c4b0 : decide (a1 < (l0_0.length : Int)) = true := decide_eq_true c4
      clear c4
      by_cases c5 : 0 ≤ a1
      · rw [if_pos c5] at H
        have c5b0 : decide (0 ≤ a1) = true := decide_eq_true c5
        clear c5
        obtain rfl := Option.some.inj H
        go_enter Try.func19, Try.ntmps19
        go_wp2_with (first | ((with_reducible refine gate_dst (N := 2) rfl ?_); (try (refine gate_guard (by rfl) ?_; dsimp only)); refine box_event ?hg (N := 2) ?hd (cs := #[.slice A0_0 l0_0.length c0_0]) (t := 24) ?hr ?_; (case hd => rfl); (case hg => rfl); (case hr => first | (go_simp; done) | (go_simp; rfl)); intro gb301 hg w6 hbox hb; have n0_ := Aside0.mk (below_step (by repeat (first | (with_reducible first | exact HB.out | apply below_alloc | apply pw_below_drewN | apply below_drew1) | exact HB.out)) hb); have n1_ := Aside0.mk (hbox); have n2_ := Aside0.mk ((by rw [hg]; exact (below_size (by repeat (first | (with_reducible first | exact HB.out | apply below_alloc | apply pw_below_drewN | apply below_drew1) | exact HB.out))) : w.heap.size ≤ gb301)); have n3_ := Aside0.mk ((by rw [hg]; exact (below_size (by repeat (first | (with_reducible first | exact HB.out | apply below_alloc | apply pw_below_drewN | apply below_drew1) | exact HB.out))) : w.heap.size ≤ gb301)); clear HB; have HB := n0_; have BK301 := n1_; have GW301 := n2_; have GE301 := n3_; clear n0_ n1_ n2_ n3_; clear hb hbox hg; have hcz7_0 : w6.cell? ⟨gb301, 0, none⟩ = some (.slice A0_0 l0_0.length c0_0) := (blk_cell BK301.out 0).trans rfl; have hfz7_0 := blk_frozen BK301.out 0; have p302 : 0 ≤ (a1 : Int) := of_decide_eq_true (by first | (with_reducible assumption) | assumption); have q302 : a1 < (l0_0.length : Int) := of_decide_eq_true (by first | (with_reducible assumption) | assumption); obtain ⟨ad302, A302_1, c302_1, A302_2, c302_2, e302, hx302_0, hx302_1, hx302_2, hx302_3, hx302_4, hx302_5, hl302_1, hi302_1, hl302_2, hi302_2⟩ := at_T45 HR0_0.out a1 p302 q302; cases e302; replace hx302_0 := (HB.out.cell (World.block_lt_of_cell? w _ hx302_0)).trans hx302_0; replace hx302_1 := (HB.out.cell (World.block_lt_of_cell? w _ hx302_1)).trans hx302_1; replace hx302_2 := (HB.out.cell (World.block_lt_of_cell? w _ hx302_2)).trans hx302_2; replace hx302_3 := (HB.out.cell (World.block_lt_of_cell? w _ hx302_3)).trans hx302_3; replace hx302_4 := (HB.out.cell (World.block_lt_of_cell? w _ hx302_4)).trans hx302_4; replace hx302_5 := (HB.out.cell (World.block_lt_of_cell? w _ hx302_5)).trans hx302_5; have HR302_1 := Aside0.mk hi302_1; have HC302_1 := Aside0.mk hl302_1; clear hi302_1 hl302_1; have HR302_2 := Aside0.mk hi302_2; have HC302_2 := Aside0.mk hl302_2; clear hi302_2 hl302_2; replace p302 := eq_true p302; replace q302 := eq_true q302))
        go_ret
        exact ⟨by first | rfl | (simp [errW_none, errW_some] <;> rfl) | (simp [*, errW_none, errW_some] <;> rfl), by repeat (first | (with_reducible first | exact HB.out | apply below_alloc | apply pw_below_drewN | apply below_drew1 | refine below_set ?_ GE301.out) | exact HB.out)⟩
      · rw [if_neg c5] at H
        exact absurd H (by simp)
    · rw [if_neg c4] at H
      have c4b0 : decide (a1 < (l0_0.length : Int)) = false := decide_eq_false c4
      clear c4
      obtain rfl := Option.some.inj H
      go_enter Try.func19, Try.ntmps19
      go_wp2_with (first | ((with_reducible refine gate_dst (N := 2) rfl ?_); (try (refine gate_guard (by rfl) ?_; dsimp only)); refine box_event ?hg (N := 2) ?hd (cs := #[.slice A0_0 l0_0.length c0_0]) (t := 24) ?hr ?_; (case hd => rfl); (case hg => rfl); (case hr => first | (go_simp; done) | (go_simp; rfl)); intro gb301 hg w8 hbox hb; have n0_ := Aside0.mk (below_step (by repeat (first | (with_reducible first | exact HB.out | apply below_alloc | apply pw_below_drewN | apply below_drew1) | exact HB.out)) hb); have n1_ := Aside0.mk (hbox); have n2_ := Aside0.mk ((by rw [hg]; exact (below_size (by repeat (first | (with_reducible first | exact HB.out | apply below_alloc | apply pw_below_drewN | apply below_drew1) | exact HB.out))) : w.heap.size ≤ gb301)); have n3_ := Aside0.mk ((by rw [hg]; exact (below_size (by repeat (first | (with_reducible first | exact HB.out | apply below_alloc | apply pw_below_drewN | apply below_drew1) | exact HB.out))) : w.heap.size ≤ gb301)); clear HB; have HB := n0_; have BK301 := n1_; have GW301 := n2_; have GE301 := n3_; clear n0_ n1_ n2_ n3_; clear hb hbox hg; have hcz9_0 : w8.cell? ⟨gb301, 0, none⟩ = some (.slice A0_0 l0_0.length c0_0) := (blk_cell BK301.out 0).trans rfl; have hfz9_0 := blk_frozen BK301.out 0))
      go_ret
      exact ⟨by first | rfl | (simp [errW_none, errW_some] <;> rfl) | (simp [*, errW_none, errW_some] <;> rfl), by repeat (first | (with_reducible first | exact HB.out | apply below_alloc | apply pw_below_drewN | apply below_drew1 | refine below_set ?_ GE301.out) | exact HB.out)⟩
  · rw [if_neg c3] at H
    have c3b0 : decide (0 ≤ a1) = false := decide_eq_false c3
    clear c3
    obtain rfl := Option.some.inj H
    go_enter Try.func19, Try.ntmps19
    go_wp2_with (first | ((with_reducible refine gate_dst (N := 2) rfl ?_); (try (refine gate_guard (by rfl) ?_; dsimp only)); refine box_event ?hg (N := 2) ?hd (cs := #[.slice A0_0 l0_0.length c0_0]) (t := 24) ?hr ?_; (case hd => rfl); (case hg => rfl); (case hr => first | (go_simp; done) | (go_simp; rfl)); intro gb301 hg w10 hbox hb; have n0_ := Aside0.mk (below_step (by repeat (first | (with_reducible first | exact HB.out | apply below_alloc | apply pw_below_drewN | apply below_drew1) | exact HB.out)) hb); have n1_ := Aside0.mk (hbox); have n2_ := Aside0.mk ((by rw [hg]; exact (below_size (by repeat (first | (with_reducible first | exact HB.out | apply below_alloc | apply pw_below_drewN | apply below_drew1) | exact HB.out))) : w.heap.size ≤ gb301)); have n3_ := Aside0.mk ((by rw [hg]; exact (below_size (by repeat (first | (with_reducible first | exact HB.out | apply below_alloc | apply pw_below_drewN | apply below_drew1) | exact HB.out))) : w.heap.size ≤ gb301)); clear HB; have HB := n0_; have BK301 := n1_; have GW301 := n2_; have GE301 := n3_; clear n0_ n1_ n2_ n3_; clear hb hbox hg))
    go_ret
    exact ⟨by first | rfl | (simp [errW_none, errW_some] <;> rfl) | (simp [*, errW_none, errW_some] <;> rfl), by repeat (first | (with_reducible first | exact HB.out | apply below_alloc | apply pw_below_drewN | apply below_drew1 | refine below_set ?_ GE301.out) | exact HB.out)⟩

/-! ### gangwaylaw0_Within: function 21 -/
def gangwaylaw0_Within.f (a0 : Int) (a1 : Int) : Option (Int) := if (IntKind.u64.wrap (a1)) = 0 then (none) else (some (wrap64 (Int.tmod (IntKind.u64.wrap (a0)) (IntKind.u64.wrap (a1)))))
set_option maxHeartbeats 8000000 in
set_option maxRecDepth 100000 in
theorem gangwaylaw0_Within.calls (a0 : Int) (a1 : Int) (r : Int) (w : World) (h : gangwaylaw0_Within.f a0 a1 = some r) :
    Calls Try.prog 21 #[.int .i64 a0, .int .i64 a1] w fun e w' => e = .returned (.int .i64 r) ∧ Drawn0 w w' := by
  have H : (if (IntKind.u64.wrap (a1)) = 0 then (none) else (some (wrap64 (Int.tmod (IntKind.u64.wrap (a0)) (IntKind.u64.wrap (a1)))))) = some r := h
  clear h
  by_cases c3 : (IntKind.u64.wrap (a1)) = 0
  · rw [if_pos c3] at H
    exact absurd H (by simp)
  · rw [if_neg c3] at H
    have c3b0 : ((IntKind.u64.wrap (a1)) == 0) = false := beq_eq_false_iff_ne.mpr c3
    have c3b1 : ((IntKind.u64.wrap (a1)) != 0) = true := bne_iff_ne.mpr c3
    obtain rfl := Option.some.inj H
    go_enter Try.func21, Try.ntmps21
    go_wp2
    go_ret
    exact ⟨by first | rfl | (simp; done) | (simp [*]; done), by repeat (first | exact Drawn0.refl _ | apply Drawn0.step)⟩



end Go.Proofs.Ytjghephnjkffcaa.PCk

namespace Go.Proofs.Ytjghephnjkffcaa.PCk
open Go.RowKit Go.Proofs.YtjghephnjkffcaaW.PrintWords Go.Proofs.YtjghephnjkffcaaW.PrintLast Go.Proofs.YtjghephnjkffcaaW.PrintMore
attribute [local go_sem] max2_int min2_int max_two min_two max_three min_three max_four min_four
set_option linter.unusedVariables false
set_option linter.unusedSimpArgs false
-- FUNCTION: gangway/gangwaylaw13.TreeData
-- IMPORT: Derived.Test.@N@WOwn
-- IMPORT: Derived.Test.@N@DLawfrees
-- IMPORT: Derived.Test.@N@DLiswithin
-- IMPORT: Derived.Test.@N@DWrite
-- IMPORT: Derived.Test.@N@DRead
-- IMPORT: Derived.Test.@N@DCut
-- IMPORT: Derived.Deep.RegionHeld3
/-- What the law meets of one act at a tree that may be. -/
def DataAt (k : Nat) (l : List S45) (a : S38) : Prop :=
  a.f10.length < 140737488355328 ∧ ∃ is ti : Bool, gangwayref13_Is.f l a.f1 = some is ∧ gangwayref0_Time.f a.f11 = some ti ∧ (is = true → 0 ≤ a.f1 ∧ a.f1 < (l.length : Int)) ∧ (is = true → (rd_T45 l a.f1).f0 = 1 → ti = true →
    ∃ (at_ : Int) (u : List S45) (e : Int), gangwaylaw0_Within.f a.f8 16394 = some at_ ∧ 0 ≤ at_ ∧ at_ < 16394 ∧ tree_Write.f k l a.f1 at_ a.f10 a.f11 = some (u, e) ∧ e = (if at_ + (a.f10.length : Int) ≤ 16384 then 0 else 22) ∧
      (e = 0 → a.f10.length ≠ 0 → ∃ (D : List Int) (v : List S45), tree_Read.f k u a.f1 at_ (a.f10.length : Int) = some (a.f10, 0) ∧ tree_Read.f k u a.f1 0 16384 = some (D, 0) ∧ gangwayref0_EqBytes.f k a.f10 a.f10 = some true ∧
        D.length = max (rd_T45 l a.f1).f1.length (at_.toNat + a.f10.length) ∧ D.length ≤ 16384 ∧
        (∀ i : Nat, i < D.length → ¬ (at_.toNat ≤ i ∧ i < at_.toNat + a.f10.length) → rd D (i : Int) = if i < (rd_T45 l a.f1).f1.length then rd (rd_T45 l a.f1).f1 (i : Int) else 0) ∧
        tree_Cut.f k u a.f1 (D.length : Int) a.f11 = some (v, 0) ∧ gangwayref0_EqTree.f k v u = some true))
theorem act_cells {W w : World} {A : Option Addr} {n : Nat} {l : List S38} (h : Kd.C k38 w A n l) (hb : Below w.heap.size w W) (i : Nat) (hi : i < n) : ∃ ad X y, A = some ad ∧ W.cell? (ad.add (i * 12)) = some (.int .i64 (rd_T38 l i).f0) ∧ W.cell? ⟨(ad.add (i * 12)).block, (ad.add (i * 12)).off + 1, none⟩ = some (.int .i64 (rd_T38 l i).f1) ∧ W.cell? ⟨(ad.add (i * 12)).block, (ad.add (i * 12)).off + 2, none⟩ = some (.int .i64 (rd_T38 l i).f2) ∧ W.cell? ⟨(ad.add (i * 12)).block, (ad.add (i * 12)).off + 3, none⟩ = some (.int .i64 (rd_T38 l i).f3) ∧ W.cell? ⟨(ad.add (i * 12)).block, (ad.add (i * 12)).off + 4, none⟩ = some (.string (rd_T38 l i).f4) ∧ W.cell? ⟨(ad.add (i * 12)).block, (ad.add (i * 12)).off + 5, none⟩ = some (.string (rd_T38 l i).f5) ∧ W.cell? ⟨(ad.add (i * 12)).block, (ad.add (i * 12)).off + 6, none⟩ = some (.int .i64 (rd_T38 l i).f6) ∧ W.cell? ⟨(ad.add (i * 12)).block, (ad.add (i * 12)).off + 7, none⟩ = some (.bool (rd_T38 l i).f7) ∧ W.cell? ⟨(ad.add (i * 12)).block, (ad.add (i * 12)).off + 8, none⟩ = some (.int .i64 (rd_T38 l i).f8) ∧ W.cell? ⟨(ad.add (i * 12)).block, (ad.add (i * 12)).off + 9, none⟩ = some (.int .i64 (rd_T38 l i).f9) ∧ W.cell? ⟨(ad.add (i * 12)).block, (ad.add (i * 12)).off + 10, none⟩ = some (.slice X (rd_T38 l i).f10.length y) ∧ W.cell? ⟨(ad.add (i * 12)).block, (ad.add (i * 12)).off + 11, none⟩ = some (.int .i64 (rd_T38 l i).f11) ∧ (rd_T38 l i).f10.length ≤ y ∧ Kd.C (Kd.int .u8) w X (rd_T38 l i).f10.length (rd_T38 l i).f10 := by
  obtain ⟨ad, X, y, ee, h0, h1, h2, h3, h4, h5, h6, h7, h8, h9, h10, h11, hy, hC⟩ := at_T38 h (i : Int) (by omega) (by omega)
  rw [Int.toNat_natCast] at h0 h1 h2 h3 h4 h5 h6 h7 h8 h9 h10 h11
  have up : ∀ {a : Addr} {v : Value}, w.cell? a = some v → W.cell? a = some v := fun h => (hb.cell (World.block_lt_of_cell? _ _ h)).trans h
  exact ⟨ad, X, y, ee, up h0, up h1, up h2, up h3, up h4, up h5, up h6, up h7, up h8, up h9, up h10, up h11, hy, hC⟩
theorem t_num (a : Int) (w : World) : Calls Try.prog 10 #[.int .i64 a] w fun e w' => e = .returned (.int .i64 a) ∧ w = w' := by
  go_enter Try.func10, Try.ntmps10
  go_wp2
  go_ret
  exact ⟨rfl, rfl⟩
set_option maxHeartbeats 8000000 in
set_option maxRecDepth 100000 in
theorem gangwaylaw13_TreeData.walk (k : Nat) (A0 : Option Addr) (c0 : Nat) (l0 : List S45) (A1 : Option Addr) (c1 : Nat) (l1 : List S38) (w : World) (hr0 : Kd.C k45 w A0 l0.length l0) (hc0 : l0.length ≤ c0) (hr1 : Kd.C k38 w A1 l1.length l1) (hc1 : l1.length ≤ c1)
    (hv m : Bool) (hH : gangwaylaw13_Heavy.f k l0 l1 = some hv) (hM : hv = false → gangwayref13_May.f k l0 = some m) (hT : hv = false → m = true → gangwaylaw13_wakes.f k = some true ∧ ∀ n : Nat, n < l1.length → DataAt k l0 (rd_T38 l1 (n : Int))) :
    Calls Try.prog 5 #[.agg #[.slice A0 l0.length c0, .slice A1 l1.length c1]] w fun e w' => e = .returned (.bool true) ∧ Below w.heap.size w w' := by
  have HR0 := Aside0.mk hr0
  have HC0 := Aside0.mk hc0
  have HR1 := Aside0.mk hr1
  have HC1 := Aside0.mk hc1
  have HH := Aside0.mk hH
  have HM := Aside0.mk hM
  have HT := Aside0.mk hT
  have hut := Try.underlying24
  have hus := Try.underlying27
  have hun := Try.underlying45
  have HB := Aside0.mk (below_alloc (Below.refl w.heap.size w) (.cells #[.slice A0 l0.length c0, .slice A1 l1.length c1] 27))
  have HBS := Aside0.mk (blk_new w (.cells #[.slice A0 l0.length c0, .slice A1 l1.length c1] 27))
  clear hr0 hc0 hr1 hc1 hH hM hT
  cases hv with
  | true =>
    clear HT HM
    go_enter Try.func5, Try.ntmps5
    go_wp2_with (first | (go_at_call 8; refine (gangwaylaw13_Heavy.calls k _ c0 l0 A1 c1 l1 _ _ (Kd.C_below HR0.out HB.out) HC0.out (Kd.C_below HR1.out HB.out) HC1.out HH.out).mono ?_; rintro e w1 ⟨rfl, hb⟩; have HBn := Aside0.mk (below_step HB.out hb); have HSn := Aside0.mk (blk_below HBS.out hb); clear HB HBS hb; have HB := HBn; have HBS := HSn; clear HBn HSn; obtain ⟨hs0, hs1⟩ := two_cells HBS.out))
    go_ret
    exact ⟨rfl, HB.out⟩
  | false =>
    have HMY := Aside0.mk (HM.out rfl)
    clear HM
    cases m with
    | false =>
      clear HT
      go_enter Try.func5, Try.ntmps5
      go_wp2_with (first | (go_at_call 8; refine (gangwaylaw13_Heavy.calls k _ c0 l0 A1 c1 l1 _ _ (Kd.C_below HR0.out HB.out) HC0.out (Kd.C_below HR1.out HB.out) HC1.out HH.out).mono ?_; rintro e w1 ⟨rfl, hb⟩; have HBn := Aside0.mk (below_step HB.out hb); have HSn := Aside0.mk (blk_below HBS.out hb); clear HB HBS hb; have HB := HBn; have HBS := HSn; clear HBn HSn; obtain ⟨hs0, hs1⟩ := two_cells HBS.out) | (go_at_call 12; refine (gangwayref13_May.calls k _ c0 l0 _ _ (Kd.C_below HR0.out HB.out) HC0.out HMY.out).mono ?_; rintro e w1 ⟨rfl, hb⟩; have HBn := Aside0.mk (below_step HB.out hb); have HSn := Aside0.mk (blk_below HBS.out hb); clear HB HBS hb; have HB := HBn; have HBS := HSn; clear HBn HSn))
      go_ret
      exact ⟨rfl, HB.out⟩
    | true =>
      obtain ⟨hwk, hfr⟩ := HT.out rfl rfl
      have HWK := Aside0.mk hwk
      have HFA := Aside0.mk hfr
      have HNUM : Aside0 (∀ x, gangwaylaw13_num.f x = some x) := ⟨fun _ => rfl⟩
      clear HT hwk hfr
      go_enter Try.func5, Try.ntmps5
      go_wp2_with (first | (go_at_call 8; refine (gangwaylaw13_Heavy.calls k _ c0 l0 A1 c1 l1 _ _ (Kd.C_below HR0.out HB.out) HC0.out (Kd.C_below HR1.out HB.out) HC1.out HH.out).mono ?_; rintro e w1 ⟨rfl, hb⟩; have HBn := Aside0.mk (below_step HB.out hb); have HSn := Aside0.mk (blk_below HBS.out hb); clear HB HBS hb; have HB := HBn; have HBS := HSn; clear HBn HSn; obtain ⟨hs0, hs1⟩ := two_cells HBS.out) | (go_at_call 12; refine (gangwayref13_May.calls k _ c0 l0 _ _ (Kd.C_below HR0.out HB.out) HC0.out HMY.out).mono ?_; rintro e w1 ⟨rfl, hb⟩; have HBn := Aside0.mk (below_step HB.out hb); have HSn := Aside0.mk (blk_below HBS.out hb); clear HB HBS hb; have HB := HBn; have HBS := HSn; clear HBn HSn))
      clear hs0 hs1
      go_loopw [3] (fun v3 w' => ∃ n : Nat, n ≤ l1.length ∧ n ≤ 6 ∧ v3 = .int .i64 n ∧ Aside0 (w'.heap[w.heap.size]? = some (.cells #[.slice A0 l0.length c0, .slice A1 l1.length c1] 27 (0, 0))) ∧ Aside0 (Below w.heap.size w w')) (fun v3 _ => 6 - (intOf v3).toNat)
      case atStart => exact ⟨0, Nat.zero_le _, Nat.zero_le _, rfl, HBS, HB⟩
      case round =>
        clear HBS HB
        obtain ⟨n, hn, hn6, rfl, HBS, HB⟩ := hrel
        obtain ⟨hs0, hs1⟩ := two_cells HBS.out
        have hmax := HR1.out.2.1
        by_cases hlt : n < l1.length
        · by_cases h6 : n < 6
          · have HDA := Aside0.mk (HFA.out n hlt)
            obtain ⟨aa, X, y, rfl, hx0, hx1, hx2, hx3, hx4, hx5, hx6, hx7, hx8, hx9, hx10, hx11, hy, hC⟩ := act_cells HR1.out HB.out n hlt
            have HXC := Aside0.mk hC
            have HXY := Aside0.mk hy
            clear hC hy
            go_upto_region 7 with (fail)
            have HS7 := Aside0.mk (blk_alloc HBS.out (.cells #[.int .i64 (rd_T38 l1 n).f0, .int .i64 (rd_T38 l1 n).f1, .int .i64 (rd_T38 l1 n).f2, .int .i64 (rd_T38 l1 n).f3, .string (rd_T38 l1 n).f4, .string (rd_T38 l1 n).f5, .int .i64 (rd_T38 l1 n).f6, .bool (rd_T38 l1 n).f7, .int .i64 (rd_T38 l1 n).f8, .int .i64 (rd_T38 l1 n).f9, .slice X (rd_T38 l1 n).f10.length y, .int .i64 (rd_T38 l1 n).f11] 38))
            have HT7 := Aside0.mk (blk_new wr (.cells #[.int .i64 (rd_T38 l1 n).f0, .int .i64 (rd_T38 l1 n).f1, .int .i64 (rd_T38 l1 n).f2, .int .i64 (rd_T38 l1 n).f3, .string (rd_T38 l1 n).f4, .string (rd_T38 l1 n).f5, .int .i64 (rd_T38 l1 n).f6, .bool (rd_T38 l1 n).f7, .int .i64 (rd_T38 l1 n).f8, .int .i64 (rd_T38 l1 n).f9, .slice X (rd_T38 l1 n).f10.length y, .int .i64 (rd_T38 l1 n).f11] 38))
            have HB7 := Aside0.mk (below_alloc HB.out (.cells #[.int .i64 (rd_T38 l1 n).f0, .int .i64 (rd_T38 l1 n).f1, .int .i64 (rd_T38 l1 n).f2, .int .i64 (rd_T38 l1 n).f3, .string (rd_T38 l1 n).f4, .string (rd_T38 l1 n).f5, .int .i64 (rd_T38 l1 n).f6, .bool (rd_T38 l1 n).f7, .int .i64 (rd_T38 l1 n).f8, .int .i64 (rd_T38 l1 n).f9, .slice X (rd_T38 l1 n).f10.length y, .int .i64 (rd_T38 l1 n).f11] 38))
            clear hs0 hs1 hx0 hx1 hx2 hx3 hx4 hx5 hx6 hx7 hx8 hx9 hx10 hx11
            obtain ⟨hs0, hs1⟩ := two_cells HS7.out
            have ht1 := (blk_cell HT7.out 1).trans rfl
            have ht8 := (blk_cell HT7.out 8).trans rfl
            have ht10 := (blk_cell HT7.out 10).trans rfl
            have ht11 := (blk_cell HT7.out 11).trans rfl
            obtain ⟨hbl, is, ti, his, hti, hir, hd⟩ := HDA.out
            have HBL := Aside0.mk hbl
            clear hbl
            have HIS := Aside0.mk his
            have HTI := Aside0.mk hti
            have HIR := Aside0.mk hir
            have HD := Aside0.mk hd
            clear his hti hir hd HDA
            cases is with
            | false =>
              go_wp2_with (first | (go_at_call 19; refine (gangwayref13_Is.calls A0 c0 l0 _ _ _ (Kd.C_below HR0.out HB7.out) HC0.out HIS.out).mono ?_; rintro e w5 ⟨rfl, hb⟩; have HBn := Aside0.mk (below_step HB7.out hb); have HSn := Aside0.mk (blk_below HS7.out hb); clear hb))
              go_roundw
              case rel => exact ⟨n + 1, by omega, by omega, by go_num, HSn, HBn⟩
              case measure => simp [intOf]; omega
            | true =>
              obtain ⟨hi0, hi1⟩ := HIR.out rfl
              obtain ⟨ad, Y1, z1, Y2, z2, rfl, hq0, hq1, _, _, _, _, hz1, hC1, _, _⟩ := at_T45 HR0.out _ hi0 hi1
              have HQ0 := Aside0.mk hq0
              have HQ1 := Aside0.mk hq1
              have HZ1 := Aside0.mk hz1
              have HCD := Aside0.mk hC1
              clear hq0 hq1 hz1 hC1
              by_cases k1 : (rd_T45 l0 (rd_T38 l1 n).f1).f0 = 1
              · have m0 : ((rd_T45 l0 (rd_T38 l1 n).f1).f0 == 1) = true := by simpa using k1
                have m1 : ((rd_T45 l0 (rd_T38 l1 n).f1).f0 != 1) = false := by simpa using k1
                cases ti with
                | false =>
                  go_wp2_with (first | (go_at_call 19; refine (gangwayref13_Is.calls _ c0 l0 _ _ _ (Kd.C_below HR0.out HB7.out) HC0.out HIS.out).mono ?_; rintro e w5 ⟨rfl, hb⟩; have HBn := Aside0.mk (below_step HB7.out hb); have HSn := Aside0.mk (blk_below HS7.out hb); have HTn := Aside0.mk (blk_below HT7.out hb); clear hb hs0 hs1 ht1 ht8 ht10 ht11; obtain ⟨hs0, hs1⟩ := two_cells HSn.out; have ht1 := (blk_cell HTn.out 1).trans rfl; have ht8 := (blk_cell HTn.out 8).trans rfl; have ht10 := (blk_cell HTn.out 10).trans rfl; have ht11 := (blk_cell HTn.out 11).trans rfl; have hq0 := (HBn.out.cell (World.block_lt_of_cell? _ _ HQ0.out)).trans HQ0.out; have hq1 := (HBn.out.cell (World.block_lt_of_cell? _ _ HQ1.out)).trans HQ1.out) | (go_at_call 20; refine (gangwayref0_Time.calls _ _ _ HTI.out).mono ?_; rintro e w6 ⟨rfl, ⟨nd, rfl⟩⟩))
                  go_roundw
                  case rel => exact ⟨n + 1, by omega, by omega, by go_num, ⟨(by repeat (first | exact HSn.out | apply blk_drewN | apply blk_alloc | apply blk_drew))⟩, ⟨(by repeat (first | exact HBn.out | apply below_alloc | apply pw_below_drewN | apply below_drew1 | apply below_drew))⟩⟩
                  case measure => simp [intOf]; omega
                | true =>
                  obtain ⟨at_, u, ee, hw, hat0, hat1, hwr, he, hre⟩ := HD.out rfl k1 rfl
                  have HWI := Aside0.mk hw
                  have HWR := Aside0.mk hwr
                  have HRE := Aside0.mk hre
                  have HEE := Aside0.mk he
                  clear hw hwr hre he HD
                  go_upto_region 11 with (first | (go_at_call 19; refine (gangwayref13_Is.calls _ c0 l0 _ _ _ (Kd.C_below HR0.out HB7.out) HC0.out HIS.out).mono ?_; rintro e w5 ⟨rfl, hb⟩; have HBn := Aside0.mk (below_step HB7.out hb); have HSn := Aside0.mk (blk_below HS7.out hb); have HTn := Aside0.mk (blk_below HT7.out hb); clear hb hs0 hs1 ht1 ht8 ht10 ht11; obtain ⟨hs0, hs1⟩ := two_cells HSn.out; have ht1 := (blk_cell HTn.out 1).trans rfl; have ht8 := (blk_cell HTn.out 8).trans rfl; have ht10 := (blk_cell HTn.out 10).trans rfl; have ht11 := (blk_cell HTn.out 11).trans rfl; have hq0 := (HBn.out.cell (World.block_lt_of_cell? _ _ HQ0.out)).trans HQ0.out; have hq1 := (HBn.out.cell (World.block_lt_of_cell? _ _ HQ1.out)).trans HQ1.out) | (go_at_call 20; refine (gangwayref0_Time.calls _ _ _ HTI.out).mono ?_; rintro e w6 ⟨rfl, ⟨nd, rfl⟩⟩) | (go_at_call 21; refine (gangwaylaw0_Within.calls _ _ _ _ HWI.out).mono ?_; rintro e w7 ⟨rfl, ⟨nd2, rfl⟩⟩) | (go_at_call 22; refine (tree_Write.calls k _ c0 l0 _ at_ X y _ _ u ee _ (Kd.C_below HR0.out (by repeat (first | exact HBn.out | apply below_alloc | apply pw_below_drewN | apply below_drew1 | apply below_drew))) HC0.out (Kd.C_below HXC.out (by repeat (first | exact HBn.out | apply below_alloc | apply pw_below_drewN | apply below_drew1 | apply below_drew))) HXY.out HWR.out).mono ?_; rintro e w8 ⟨v0, rfl, hS, hb⟩; obtain ⟨At, ct, rfl, hct, hCt⟩ := Kd.S_reads hS; have HB8 := Aside0.mk (below_step (by repeat (first | exact HBn.out | apply below_alloc | apply pw_below_drewN | apply below_drew1 | apply below_drew)) hb); have HS8 := Aside0.mk (blk_below (by repeat (first | exact HSn.out | apply blk_drewN | apply blk_alloc | apply blk_drew)) hb); have HT8 := Aside0.mk (blk_below (by repeat (first | exact HTn.out | apply blk_drewN | apply blk_alloc | apply blk_drew)) hb); have HCT := Aside0.mk hCt; have HCC := Aside0.mk hct; clear hb hS hCt hct))
                  have HS9 := Aside0.mk (blk_alloc HS8.out (.cells #[.slice At u.length ct] 24))
                  have HT9 := Aside0.mk (blk_alloc HT8.out (.cells #[.slice At u.length ct] 24))
                  have HU9 := Aside0.mk (blk_new w8 (.cells #[.slice At u.length ct] 24))
                  have HB9 := Aside0.mk (below_alloc HB8.out (.cells #[.slice At u.length ct] 24))
                  have HY9 := Aside0.mk (below_alloc (Below.refl w8.heap.size w8) (.cells #[.slice At u.length ct] 24))
                  clear hs0 hs1 ht1 ht8 ht10 ht11 hq0 hq1
                  obtain ⟨hs0, hs1⟩ := two_cells HS9.out
                  have ht1 := (blk_cell HT9.out 1).trans rfl
                  have ht10 := (blk_cell HT9.out 10).trans rfl
                  have ht11 := (blk_cell HT9.out 11).trans rfl
                  have hu0 := one_cell HU9.out
                  have hwl : wrap64 (at_ + ((rd_T38 l1 n).f10.length : Int)) = at_ + ((rd_T38 l1 n).f10.length : Int) := by have := HBL.out; unfold wrap64; omega
                  have hle := HEE.out
                  by_cases hfit : at_ + ((rd_T38 l1 n).f10.length : Int) ≤ 16384
                  · rw [if_pos hfit] at hle
                    subst hle
                    go_quiet (first | (go_at_call 10; (with_reducible refine (gangwaylaw13_num.calls _ _ _ (HNUM.out _)).mono ?_); rintro e w' ⟨rfl, ⟨nd, rfl⟩⟩; (try first | exact ⟨rfl, _, World.drewN_drewN _ _ _⟩ | exact ⟨rfl, _, Eq.trans (World.drewN_drewN _ _ _) (congrArg (World.drewN _) (Nat.add_assoc _ _ _))⟩)))
                    by_cases hz : (rd_T38 l1 n).f10.length = 0
                    · have z1 : ((((rd_T38 l1 n).f10.length : Nat) : Int) == 0) = true := by simpa using hz
                      have z2 : ((rd_T38 l1 n).f10.length == 0) = true := by simpa using hz
                      clear hz
                      go_wp2_with (first | (go_at_call 10; refine (t_num _ _).mono ?_; rintro e w' ⟨rfl, rfl⟩))
                      go_roundw
                      case rel => exact ⟨n + 1, by omega, by omega, by go_num, ⟨(by repeat (first | exact HS9.out | apply blk_drewN | apply blk_alloc | apply blk_drew))⟩, ⟨(by repeat (first | exact HB9.out | apply below_alloc | apply pw_below_drewN | apply below_drew1 | apply below_drew))⟩⟩
                      case measure => simp [intOf]; omega
                    · obtain ⟨D, v, hr1, hr2, heq, hDl, hDm, hDD, hcut, heqt⟩ := HRE.out rfl hz
                      have HR1' := Aside0.mk hr1
                      have HR2' := Aside0.mk hr2
                      have HEQ := Aside0.mk heq
                      have HDL := Aside0.mk hDl
                      have HDM := Aside0.mk hDm
                      have HDD := Aside0.mk hDD
                      have HCUT := Aside0.mk hcut
                      have HEQT := Aside0.mk heqt
                      have z1 : ((((rd_T38 l1 n).f10.length : Nat) : Int) == 0) = false := by simpa using hz
                      have z2 : ((rd_T38 l1 n).f10.length == 0) = false := by simpa using hz
                      have hmx : ((D.length : Int) != max (((rd_T45 l0 (rd_T38 l1 n).f1).f1.length : Nat) : Int) (at_ + ((rd_T38 l1 n).f10.length : Int))) = false := by
                        have : (D.length : Int) = max (((rd_T45 l0 (rd_T38 l1 n).f1).f1.length : Nat) : Int) (at_ + ((rd_T38 l1 n).f10.length : Int)) := by rw [hDl]; omega
                        rw [this]; simp
                      have HMX := Aside0.mk hmx
                      clear hr1 hr2 heq hDl hDm hDD hcut heqt hmx
                      go_wp2_with (first | (go_at_call 10; refine (t_num _ _).mono ?_; rintro e w' ⟨rfl, rfl⟩))
                      refine (tree_Read.calls k At ct u _ at_ _ (rd_T38 l1 n).f10 0 _ (Kd.C_below HCT.out (by repeat (first | exact HY9.out | apply below_alloc | apply pw_below_drewN | apply below_drew1 | apply below_drew))) HCC.out HR1'.out).mono ?_
                      rintro e w11 ⟨v11, rfl, hR, hb⟩
                      obtain ⟨A11, c11, rfl, hc11, hC11⟩ := Kd.R_reads hR
                      have HE11 := Aside0.mk hc11
                      have HC11 := Aside0.mk hC11
                      have HS11 := Aside0.mk (blk_below (by repeat (first | exact HS9.out | apply blk_drewN | apply blk_alloc | apply blk_drew)) hb)
                      have HT11 := Aside0.mk (blk_below (by repeat (first | exact HT9.out | apply blk_drewN | apply blk_alloc | apply blk_drew)) hb)
                      have HU11 := Aside0.mk (blk_below (by repeat (first | exact HU9.out | apply blk_drewN | apply blk_alloc | apply blk_drew)) hb)
                      have HB11 := Aside0.mk (below_step (by repeat (first | exact HB9.out | apply below_alloc | apply pw_below_drewN | apply below_drew1 | apply below_drew)) hb)
                      have HY11 := Aside0.mk (below_step (by repeat (first | exact HY9.out | apply below_alloc | apply pw_below_drewN | apply below_drew1 | apply below_drew)) hb)
                      clear hR hb hc11 hC11
                      clear hs0 hs1 ht1 ht10 ht11 hu0
                      obtain ⟨hs0, hs1⟩ := two_cells HS11.out
                      have ht1 := (blk_cell HT11.out 1).trans rfl
                      have ht10 := (blk_cell HT11.out 10).trans rfl
                      have ht11 := (blk_cell HT11.out 11).trans rfl
                      have hu0 := one_cell HU11.out
                      go_wp2_with fail
                      refine (tree_Read.calls k At ct u _ 0 16384 D 0 _ (Kd.C_below HCT.out (by repeat (first | exact HY11.out | apply below_alloc | apply pw_below_drewN | apply below_drew1 | apply below_drew))) HCC.out HR2'.out).mono ?_
                      rintro e w12 ⟨v12, rfl, hR, hb⟩
                      obtain ⟨A12, c12, rfl, hc12, hC12⟩ := Kd.R_reads hR
                      have HE12 := Aside0.mk hc12
                      have HC12' := Aside0.mk hC12
                      have HC11' := Aside0.mk (Kd.C_below HC11.out hb)
                      have HS12 := Aside0.mk (blk_below (by repeat (first | exact HS11.out | apply blk_drewN | apply blk_alloc | apply blk_drew)) hb)
                      have HT12 := Aside0.mk (blk_below (by repeat (first | exact HT11.out | apply blk_drewN | apply blk_alloc | apply blk_drew)) hb)
                      have HU12 := Aside0.mk (blk_below (by repeat (first | exact HU11.out | apply blk_drewN | apply blk_alloc | apply blk_drew)) hb)
                      have HB12 := Aside0.mk (below_step (by repeat (first | exact HB11.out | apply below_alloc | apply pw_below_drewN | apply below_drew1 | apply below_drew)) hb)
                      have HY12 := Aside0.mk (below_step (by repeat (first | exact HY11.out | apply below_alloc | apply pw_below_drewN | apply below_drew1 | apply below_drew)) hb)
                      clear hR hb hc12 hC12 HC11
                      clear hs0 hs1 ht1 ht10 ht11 hu0
                      obtain ⟨hs0, hs1⟩ := two_cells HS12.out
                      have ht1 := (blk_cell HT12.out 1).trans rfl
                      have ht10 := (blk_cell HT12.out 10).trans rfl
                      have ht11 := (blk_cell HT12.out 11).trans rfl
                      have hu0 := one_cell HU12.out
                      go_wp2_with (first | (go_at_call 10; refine (t_num _ _).mono ?_; rintro e w' ⟨rfl, rfl⟩))
                      refine (gangwayref0_EqBytes.calls k A11 c11 (rd_T38 l1 n).f10 X y (rd_T38 l1 n).f10 true _ HC11'.out HE11.out (Kd.C_below HXC.out HB12.out) HXY.out HEQ.out).mono ?_
                      rintro e w13 ⟨rfl, nd3, hw13⟩
                      have hb : Below w12.heap.size w12 w13 := hw13 ▸ pw_below_drewN (Below.refl _ _) nd3
                      have HC12 := Aside0.mk (Kd.C_below HC12'.out hb)
                      have HS13 := Aside0.mk (blk_below (by repeat (first | exact HS12.out | apply blk_drewN | apply blk_alloc | apply blk_drew)) hb)
                      have HT13 := Aside0.mk (blk_below (by repeat (first | exact HT12.out | apply blk_drewN | apply blk_alloc | apply blk_drew)) hb)
                      have HU13 := Aside0.mk (blk_below (by repeat (first | exact HU12.out | apply blk_drewN | apply blk_alloc | apply blk_drew)) hb)
                      have HB13 := Aside0.mk (below_step (by repeat (first | exact HB12.out | apply below_alloc | apply pw_below_drewN | apply below_drew1 | apply below_drew)) hb)
                      have HY13 := Aside0.mk (below_step (by repeat (first | exact HY12.out | apply below_alloc | apply pw_below_drewN | apply below_drew1 | apply below_drew)) hb)
                      clear hb hw13 HC12' HC11'
                      clear hs0 hs1 ht1 ht10 ht11 hu0
                      obtain ⟨hs0, hs1⟩ := two_cells HS13.out
                      have ht1 := (blk_cell HT13.out 1).trans rfl
                      have ht10 := (blk_cell HT13.out 10).trans rfl
                      have ht11 := (blk_cell HT13.out 11).trans rfl
                      have hu0 := one_cell HU13.out
                      have hmx := HMX.out
                      go_wp2
                      all_goals
                        clear hmx
                        go_loopw [13] (fun v13 w' => ∃ j : Nat, j ≤ D.length ∧ v13 = .int .i64 j ∧ w' = w13) (fun v13 _ => D.length - (intOf v13).toNat)
                        case atStart => exact ⟨0, Nat.zero_le _, rfl, rfl⟩
                        case round =>
                          obtain ⟨j, hj, rfl, rfl⟩ := hrel
                          have hdm := HDM.out
                          by_cases hjD : j < D.length
                          · have d1 : decide (j < D.length) = true := decide_eq_true hjD
                            by_cases hge : at_ ≤ (j : Int)
                            · have g1 : decide ((j : Int) ≥ at_) = true := decide_eq_true hge
                              have g1' : decide (at_ ≤ (j : Int)) = true := decide_eq_true hge
                              by_cases hlt2 : (j : Int) < at_ + ((rd_T38 l1 n).f10.length : Int)
                              · have g2 : decide ((j : Int) < at_ + ((rd_T38 l1 n).f10.length : Int)) = true := decide_eq_true hlt2
                                go_wp2
                                go_roundw
                                case rel => exact ⟨j + 1, by omega, by go_num, by first | rfl | trivial⟩
                                case measure => simp [intOf]; omega
                              · have g2 : decide ((j : Int) < at_ + ((rd_T38 l1 n).f10.length : Int)) = false := decide_eq_false hlt2
                                have hin : ¬ (at_.toNat ≤ j ∧ j < at_.toNat + (rd_T38 l1 n).f10.length) := by omega
                                clear hlt2 hge
                                obtain ⟨ad12, cz, eD, _, hK, hcz⟩ := Kd.C_get HC12.out (0 : Int) (j : Int) (by omega) (by omega)
                                rw [Int.toNat_natCast] at hK hcz
                                have hK' : cz = [.int .u8 (D.getD j 0)] := hK
                                subst hK'
                                subst eD
                                obtain ⟨x, hx⟩ : ∃ x, x = D.getD j 0 := ⟨_, rfl⟩
                                rw [← hx] at hcz
                                have hxc : wr.cell? (ad12.add (j * 1)) = some (.int .u8 x) := hcz 0 _ rfl
                                rw [Nat.mul_one] at hxc
                                have HXD := Aside0.mk hx
                                clear hcz hK hx
                                by_cases hjo : j < (rd_T45 l0 (rd_T38 l1 n).f1).f1.length
                                · have hval : x = rd (rd_T45 l0 (rd_T38 l1 n).f1).f1 (j : Int) := by
                                    have := HDD.out j hjD hin
                                    rw [if_pos hjo] at this
                                    have e1 : rd D (j : Int) = D.getD j 0 := by unfold rd; rw [Int.toNat_natCast]
                                    exact HXD.out.trans (e1.symm.trans this)
                                  obtain ⟨adO, co, eO, _, hK, hco⟩ := Kd.C_get HCD.out (0 : Int) (j : Int) (by omega) (by omega)
                                  rw [Int.toNat_natCast] at hK hco
                                  have hK' : co = [.int .u8 ((rd_T45 l0 (rd_T38 l1 n).f1).f1.getD j 0)] := hK
                                  subst hK'
                                  subst eO
                                  have hxo : wr.cell? (adO.add (j * 1)) = some (.int .u8 x) := by
                                    have h1 := hco 0 _ rfl
                                    have h2 := (HB13.out.cell (World.block_lt_of_cell? _ _ h1)).trans h1
                                    rw [hval]; unfold rd; rw [Int.toNat_natCast]; exact h2
                                  rw [Nat.mul_one] at hxo
                                  have o1 : decide (j < (rd_T45 l0 (rd_T38 l1 n).f1).f1.length) = true := decide_eq_true hjo
                                  have o2 : decide ((j : Int) < ((rd_T45 l0 (rd_T38 l1 n).f1).f1.length : Int)) = true := decide_eq_true (by omega)
                                  clear hco hK hval
                                  go_wp2
                                  go_roundw
                                  case rel => exact ⟨j + 1, by omega, by go_num, by first | rfl | trivial⟩
                                  case measure => simp [intOf]; omega
                                · have hval : x = 0 := by
                                    have := HDD.out j hjD hin
                                    rw [if_neg hjo] at this
                                    have e1 : rd D (j : Int) = D.getD j 0 := by unfold rd; rw [Int.toNat_natCast]
                                    exact HXD.out.trans (e1.symm.trans this)
                                  subst hval
                                  have o1 : decide (j < (rd_T45 l0 (rd_T38 l1 n).f1).f1.length) = false := decide_eq_false hjo
                                  have o2 : decide ((j : Int) < ((rd_T45 l0 (rd_T38 l1 n).f1).f1.length : Int)) = false := decide_eq_false (by omega)
                                  clear hjo
                                  go_wp2
                                  go_roundw
                                  case rel => exact ⟨j + 1, by omega, by go_num, by first | rfl | trivial⟩
                                  case measure => simp [intOf]; omega
                            · have g1 : decide ((j : Int) ≥ at_) = false := decide_eq_false hge
                              have g1' : decide (at_ ≤ (j : Int)) = false := decide_eq_false hge
                              have hin : ¬ (at_.toNat ≤ j ∧ j < at_.toNat + (rd_T38 l1 n).f10.length) := by omega
                              clear hge
                              obtain ⟨ad12, cz, eD, _, hK, hcz⟩ := Kd.C_get HC12.out (0 : Int) (j : Int) (by omega) (by omega)
                              rw [Int.toNat_natCast] at hK hcz
                              have hK' : cz = [.int .u8 (D.getD j 0)] := hK
                              subst hK'
                              subst eD
                              obtain ⟨x, hx⟩ : ∃ x, x = D.getD j 0 := ⟨_, rfl⟩
                              rw [← hx] at hcz
                              have hxc : wr.cell? (ad12.add (j * 1)) = some (.int .u8 x) := hcz 0 _ rfl
                              rw [Nat.mul_one] at hxc
                              have HXD := Aside0.mk hx
                              clear hcz hK hx
                              by_cases hjo : j < (rd_T45 l0 (rd_T38 l1 n).f1).f1.length
                              · have hval : x = rd (rd_T45 l0 (rd_T38 l1 n).f1).f1 (j : Int) := by
                                  have := HDD.out j hjD hin
                                  rw [if_pos hjo] at this
                                  have e1 : rd D (j : Int) = D.getD j 0 := by unfold rd; rw [Int.toNat_natCast]
                                  exact HXD.out.trans (e1.symm.trans this)
                                obtain ⟨adO, co, eO, _, hK, hco⟩ := Kd.C_get HCD.out (0 : Int) (j : Int) (by omega) (by omega)
                                rw [Int.toNat_natCast] at hK hco
                                have hK' : co = [.int .u8 ((rd_T45 l0 (rd_T38 l1 n).f1).f1.getD j 0)] := hK
                                subst hK'
                                subst eO
                                have hxo : wr.cell? (adO.add (j * 1)) = some (.int .u8 x) := by
                                  have h1 := hco 0 _ rfl
                                  have h2 := (HB13.out.cell (World.block_lt_of_cell? _ _ h1)).trans h1
                                  rw [hval]; unfold rd; rw [Int.toNat_natCast]; exact h2
                                rw [Nat.mul_one] at hxo
                                have o1 : decide (j < (rd_T45 l0 (rd_T38 l1 n).f1).f1.length) = true := decide_eq_true hjo
                                have o2 : decide ((j : Int) < ((rd_T45 l0 (rd_T38 l1 n).f1).f1.length : Int)) = true := decide_eq_true (by omega)
                                clear hco hK hval
                                go_wp2
                                go_roundw
                                case rel => exact ⟨j + 1, by omega, by go_num, by first | rfl | trivial⟩
                                case measure => simp [intOf]; omega
                              · have hval : x = 0 := by
                                  have := HDD.out j hjD hin
                                  rw [if_neg hjo] at this
                                  have e1 : rd D (j : Int) = D.getD j 0 := by unfold rd; rw [Int.toNat_natCast]
                                  exact HXD.out.trans (e1.symm.trans this)
                                subst hval
                                have o1 : decide (j < (rd_T45 l0 (rd_T38 l1 n).f1).f1.length) = false := decide_eq_false hjo
                                have o2 : decide ((j : Int) < ((rd_T45 l0 (rd_T38 l1 n).f1).f1.length : Int)) = false := decide_eq_false (by omega)
                                clear hjo
                                go_wp2
                                go_roundw
                                case rel => exact ⟨j + 1, by omega, by go_num, by first | rfl | trivial⟩
                                case measure => simp [intOf]; omega
                          · have d1 : decide (j < D.length) = false := decide_eq_false hjD
                            clear hjD
                            go_wp2_with fail
                            refine (tree_Cut.calls k At ct u _ _ _ v 0 _ (Kd.C_below HCT.out HY13.out) HCC.out HCUT.out).mono ?_
                            rintro e w14 ⟨v14, rfl, hS, hb⟩
                            obtain ⟨A14, c14, rfl, hc14, hC14⟩ := Kd.S_reads hS
                            have HE14 := Aside0.mk hc14
                            have HC14 := Aside0.mk hC14
                            have HS14 := Aside0.mk (blk_below (by repeat (first | exact HS13.out | apply blk_drewN | apply blk_alloc | apply blk_drew)) hb)
                            have HT14 := Aside0.mk (blk_below (by repeat (first | exact HT13.out | apply blk_drewN | apply blk_alloc | apply blk_drew)) hb)
                            have HU14 := Aside0.mk (blk_below (by repeat (first | exact HU13.out | apply blk_drewN | apply blk_alloc | apply blk_drew)) hb)
                            have HB14 := Aside0.mk (below_step (by repeat (first | exact HB13.out | apply below_alloc | apply pw_below_drewN | apply below_drew1 | apply below_drew)) hb)
                            have HY14 := Aside0.mk (below_step (by repeat (first | exact HY13.out | apply below_alloc | apply pw_below_drewN | apply below_drew1 | apply below_drew)) hb)
                            clear hS hb hc14 hC14
                            clear hs0 hs1 ht1 ht10 ht11 hu0
                            obtain ⟨hs0, hs1⟩ := two_cells HS14.out
                            have ht1 := (blk_cell HT14.out 1).trans rfl
                            have ht10 := (blk_cell HT14.out 10).trans rfl
                            have ht11 := (blk_cell HT14.out 11).trans rfl
                            have hu0 := one_cell HU14.out
                            have hu1 := one_cell (blk_alloc HU14.out (.cells #[.slice A14 v.length c14] 24))
                            go_wp2_with (first | (go_at_call 10; refine (t_num _ _).mono ?_; rintro e w' ⟨rfl, rfl⟩))
                            refine (gangwayref0_EqTree.calls k A14 c14 v At ct u true _ (Kd.C_alloc HC14.out _) HE14.out (Kd.C_below HCT.out (below_alloc HY14.out _)) HCC.out HEQT.out).mono ?_
                            rintro e w15 ⟨rfl, hb⟩
                            have HS15 := Aside0.mk (blk_below (blk_alloc HS14.out _) hb)
                            have HB15 := Aside0.mk (below_step (below_alloc HB14.out _) hb)
                            clear hb
                            go_wp2
                            go_roundw
                            case rel => exact ⟨n + 1, by omega, by omega, by go_num, HS15, HB15⟩
                            case measure => simp [intOf]; omega
                  · rw [if_neg hfit] at hle
                    subst hle
                    go_quiet (first | (go_at_call 10; (with_reducible refine (gangwaylaw13_num.calls _ _ _ (HNUM.out _)).mono ?_); rintro e w' ⟨rfl, ⟨nd, rfl⟩⟩; (try first | exact ⟨rfl, _, World.drewN_drewN _ _ _⟩ | exact ⟨rfl, _, Eq.trans (World.drewN_drewN _ _ _) (congrArg (World.drewN _) (Nat.add_assoc _ _ _))⟩)))
                    go_wp2_with (first | (go_at_call 10; refine (t_num _ _).mono ?_; rintro e w' ⟨rfl, rfl⟩))
                    go_roundw
                    case rel => exact ⟨n + 1, by omega, by omega, by go_num, ⟨(by repeat (first | exact HS9.out | apply blk_drewN | apply blk_alloc | apply blk_drew))⟩, ⟨(by repeat (first | exact HB9.out | apply below_alloc | apply pw_below_drewN | apply below_drew1 | apply below_drew))⟩⟩
                    case measure => simp [intOf]; omega
              · have m0 : ((rd_T45 l0 (rd_T38 l1 n).f1).f0 == 1) = false := by simpa using k1
                have m1 : ((rd_T45 l0 (rd_T38 l1 n).f1).f0 != 1) = true := by simpa using k1
                · go_wp2_with (first | (go_at_call 19; refine (gangwayref13_Is.calls _ c0 l0 _ _ _ (Kd.C_below HR0.out HB7.out) HC0.out HIS.out).mono ?_; rintro e w5 ⟨rfl, hb⟩; have HBn := Aside0.mk (below_step HB7.out hb); have HSn := Aside0.mk (blk_below HS7.out hb); have HTn := Aside0.mk (blk_below HT7.out hb); clear hb hs0 hs1 ht1 ht8 ht10 ht11; obtain ⟨hs0, hs1⟩ := two_cells HSn.out; have ht1 := (blk_cell HTn.out 1).trans rfl; have ht8 := (blk_cell HTn.out 8).trans rfl; have ht10 := (blk_cell HTn.out 10).trans rfl; have ht11 := (blk_cell HTn.out 11).trans rfl; have hq0 := (HBn.out.cell (World.block_lt_of_cell? _ _ HQ0.out)).trans HQ0.out; have hq1 := (HBn.out.cell (World.block_lt_of_cell? _ _ HQ1.out)).trans HQ1.out) | (go_at_call 20; refine (gangwayref0_Time.calls _ _ _ HTI.out).mono ?_; rintro e w6 ⟨rfl, ⟨nd, rfl⟩⟩))
                  go_roundw
                  case rel => exact ⟨n + 1, by omega, by omega, by go_num, ⟨(by repeat (first | exact HSn.out | apply blk_drewN | apply blk_alloc | apply blk_drew))⟩, ⟨(by repeat (first | exact HBn.out | apply below_alloc | apply pw_below_drewN | apply below_drew1 | apply below_drew))⟩⟩
                  case measure => simp [intOf]; omega
          · go_wp2_with (first | (go_at_call 16; refine (gangwaylaw13_wakes.calls k true _ HWK.out).mono ?_; rintro e w9 ⟨rfl, hb⟩; have HXn := Aside0.mk (below_step (by repeat (first | exact HB.out | apply below_alloc | apply pw_below_drewN | apply below_drew1 | apply below_drew)) hb); clear hb))
            go_ret
            exact ⟨rfl, HXn.out⟩
        · go_wp2_with (first | (go_at_call 16; refine (gangwaylaw13_wakes.calls k true _ HWK.out).mono ?_; rintro e w9 ⟨rfl, hb⟩; have HXn := Aside0.mk (below_step (by repeat (first | exact HB.out | apply below_alloc | apply pw_below_drewN | apply below_drew1 | apply below_drew)) hb); clear hb))
          go_ret
          exact ⟨rfl, HXn.out⟩

end Go.Proofs.Ytjghephnjkffcaa.PCk
