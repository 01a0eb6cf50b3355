/- Parts of one proof, merged by merge.py of this repo: walks over the given program and plain facts, used by the law of the file YtpkhpfgojhojaaaCDiskExact. -/
import Derived.Test.YtpkhpfgojhojaaaMDiskExact4
import Derived.Test.YtpkhpfgojhojaaaMDiskExact3
import Derived.Test.YtpkhpfgojhojaaaMDiskExact2
namespace Go.Proofs.Ytpkhpfgojhojaaa.PDk
open Go.RowKit Go.Proofs.YtpkhpfgojhojaaaW.PrintWords Go.Proofs.YtpkhpfgojhojaaaW.PrintLast Go.Proofs.YtpkhpfgojhojaaaW.PrintMore
attribute [local go_sem] max2_int min2_int max_two min_two max_three min_three max_four min_four
set_option linter.unusedVariables false
set_option linter.unusedSimpArgs false
-- IMPORT: Derived.Test.@N@WOwn
-- IMPORT: Derived.Test.@N@DRkwrite
def Rk.flush (x : Rk) : Rk × Int := ((if x.stroke.2.1 = true ∧ x.stroke.2.2 = false then { x.stroke.1 with S := x.E } else x.stroke.1), doneN x.stroke.2.2)
theorem mixL_next (S E : List (List Int)) (i : Nat) (h1 : i < E.length) (h2 : S.length = E.length) : (E.take i ++ S.drop i).set i (E[i]'h1) = E.take (i + 1) ++ S.drop (i + 1) := by
  rw [List.set_append, if_neg (by rw [List.length_take]; omega), List.length_take, show i - min i E.length = 0 by omega, List.drop_eq_getElem_cons (by omega), List.set_cons_zero, List.take_succ_eq_append_getElem h1, List.append_assoc, List.singleton_append]
set_option maxHeartbeats 4000000 in
set_option maxRecDepth 100000 in
theorem rk_Flush (r : Nat) (w : World) (base : Nat) (ok : Nat → Prop) (x : Rk) (h : RkAt w base ok r x) :
    Calls Try.prog 24 #[.pointer (some ⟨r, 0, none⟩)] w fun e w' => e = .returned (.int .i64 x.flush.2) ∧ RkAt w' base ok r x.flush.1 ∧ Kept w w' ok ∧ Below base w w' := by
  have H := Aside0.mk h
  have HSE := Aside0.mk (stroke_E x)
  have hds := Try.underlying88
  have HF0 := Aside0.mk h.fits
  clear h
  go_enter Try.func24, Try.ntmps24
  go_wp2_with fail
  refine (rk_stroke r _ base ok x H.out).mono ?_
  rintro e' w3 ⟨rfl, hd, hk, hb⟩
  have HD3 := Aside0.mk hd
  have HK3 := Aside0.mk hk
  have HB3 := Aside0.mk hb
  clear hd hk hb
  by_cases hg : x.stroke.2.1 = true ∧ x.stroke.2.2 = false
  · have HG := Aside0.mk hg
    obtain ⟨g1, g2⟩ := hg
    rw [g1, g2]
    obtain ⟨nn, hnn⟩ : ∃ nn, nn = x.E.length := ⟨_, rfl⟩
    have HNN := Aside0.mk hnn
    have hmx : nn ≤ 16384 := by have := HF0.out.2.2.1; omega
    clear hnn g1 g2
    go_wp2
    go_loopw [5] (fun v5 w' => ∃ i : Nat, i ≤ nn ∧ v5 = .int .i64 i ∧ Aside0 (RkAt w' base ok r { x.stroke.1 with S := x.E.take i ++ x.S.drop i }) ∧ Aside0 (Kept w w' ok) ∧ Aside0 (Below base w w')) (fun v5 _ => nn - (intOf v5).toNat)
    case atStart => exact ⟨0, Nat.zero_le _, rfl, ⟨by
      have := HD3.out
      have e : ({ x.stroke.1 with S := x.E.take 0 ++ x.S.drop 0 } : Rk) = x.stroke.1 := by
        rw [List.take_zero, List.drop_zero, List.nil_append, ← HSE.out.2.1]
      rw [e]; exact this⟩, HK3, HB3⟩
    case round =>
      clear HD3 HK3 HB3
      obtain ⟨i, hi, rfl, HD, HK, HB⟩ := hrel
      have HM1 : Aside0 ((x.E.take i ++ x.S.drop i).length = nn) := ⟨by rw [List.length_append, List.length_take, List.length_drop, HF0.out.1, ← HNN.out]; omega⟩
      have HM2 : Aside0 (x.stroke.1.E.length = nn) := ⟨by rw [HSE.out.1, HNN.out]⟩
      obtain ⟨gs, cs, ge, ce, vt, h1, h2, h3, h4, h5, h6, h7⟩ := HD.out.below (below_drew (Below.refl wr.heap.size wr))
      have hz0 := (blk_cell h1 0).trans rfl
      have hz1 := (blk_cell h1 1).trans rfl
      by_cases hlt : i < nn
      · have hEl : i < x.E.length := by rw [← HNN.out]; exact hlt
        obtain ⟨c, hcl, hM, hcc, _⟩ := Kd.R_elem h3 [] (i : Int) (by omega) (by show (i : Int) < (x.stroke.1.E.length : Int); rw [HM2.out]; omega)
        have hcl1 : c.length = 1 := hcl
        rw [Int.toNat_natCast] at hM
        obtain ⟨v, rfl, hv⟩ := hM
        obtain ⟨Av, cv, rfl, _, _⟩ := Kd.R_reads hv
        have hz2 := hcc 0 _ rfl
        rw [Int.toNat_natCast, show i * (Kd.slice 5 (Kd.int .u8)).sz + 0 = i by show i * 1 + 0 = i; omega] at hz2
        obtain ⟨fc, hfc⟩ := Kd.R_typed h2 gs rfl
        have hfz := blk_frozen hfc i
        have hxi : x.stroke.1.E.getD i [] = x.E[i]'hEl := by rw [HSE.out.1, List.getD_eq_getElem?_getD, List.getElem?_eq_getElem hEl]; rfl
        have hset := rk_setS (i := i) (okv := fun k => (ok k ∧ k ≠ gs) ∧ k ≠ ge) h1 h2 h3 h4 h5 h6 h7 (by show i < (x.E.take i ++ x.S.drop i).length; rw [HM1.out]; exact hlt) (b := x.E[i]'hEl) (HF0.out.2.2.2.2 _ (List.getElem_mem _)) (by rw [hxi] at hv; exact hv) (fun k hk => ⟨⟨hk.1.1, hk.2⟩, hk.1.2⟩)
        obtain ⟨cu, hcul, _, hcuc, _⟩ := Kd.R_elem h2 [] (i : Int) (by omega) (by show (i : Int) < ((x.E.take i ++ x.S.drop i).length : Int); rw [HM1.out]; omega)
        have hcu1 : cu.length = 1 := hcul
        obtain ⟨u9, hu9⟩ : ∃ u, wr.drew.cell? ⟨gs, i, none⟩ = some u := by
          match cu, hcu1 with
          | [u], _ => exact ⟨u, by have := hcuc 0 u rfl; rw [Int.toNat_natCast, show i * (Kd.slice 5 (Kd.int .u8)).sz + 0 = i by show i * 1 + 0 = i; omega] at this; exact this⟩
        have hxl : (x.stroke.1.E.getD i []).length = 64 := by rw [hxi]; exact HF0.out.2.2.2.2 _ (List.getElem_mem _)
        have e1 : ({ ({ x.stroke.1 with S := x.E.take i ++ x.S.drop i } : Rk) with S := (x.E.take i ++ x.S.drop i).set i (x.E[i]'hEl) } : Rk) = { x.stroke.1 with S := x.E.take (i + 1) ++ x.S.drop (i + 1) } := by rw [mixL_next _ _ _ _ HF0.out.1]
        have HSETx := hset
        have HE1 := Aside0.mk e1
        obtain ⟨lv, hlv⟩ : ∃ lv, lv = (x.E[i]'hEl).length := ⟨_, rfl⟩
        rw [hxi, ← hlv] at hz2
        rw [← hlv] at HSETx
        have HSET := Aside0.mk HSETx
        clear HSETx
        replace hz0 : wr.drew.cell? ⟨r, 0, none⟩ = some (.slice (some ⟨gs, 0, none⟩) nn cs) := by rw [← HM1.out]; exact hz0
        replace hz1 : wr.drew.cell? ⟨r, 1, none⟩ = some (.slice (some ⟨ge, 0, none⟩) nn ce) := by rw [← HM2.out]; exact hz1
        have hz0' : wr.cell? ⟨r, 0, none⟩ = some (.slice (some ⟨gs, 0, none⟩) nn cs) := hz0
        have hz1' : wr.cell? ⟨r, 1, none⟩ = some (.slice (some ⟨ge, 0, none⟩) nn ce) := hz1
        clear h1 h2 h3 h4 h5 h6 h7 hcl hcl1 hv hcc hfc hxi hset hcul hcu1 hcuc hxl e1 hlv
        go_upto_region 6 with (fail)
        refine start_ (n := 14) (S := fun w' => w'.cell? ⟨r, 0, none⟩ = some (.slice (some ⟨gs, 0, none⟩) nn cs) ∧ w'.cell? ⟨r, 1, none⟩ = some (.slice (some ⟨ge, 0, none⟩) nn ce) ∧ w'.cell? ⟨ge, i, none⟩ = some (.slice Av lv cv)) (ds := [13]) #[false, false, false, false, false, false, false, false, false, false, false, false, false, false] (by kernel_rfl) rfl rfl ⟨hz0, hz1, hz2⟩ (fun hHeld => ?_)
        refine pure_ (i := 0) (N := some 25) (v := ?_) (a' := ?_) #[true, false, false, false, false, false, false, false, false, false, false, false, false, false] rfl rfl (by kernel_rfl) (fun _ _ _ h => h) (Or.inl ⟨by rfl, ?_⟩) ?_ ?_
        rotate_left
        · intro w'
          go_simp
          with_reducible rfl
        rotate_left
        · simp only [Act.put, List.setIfInBounds_toArray, List.set_cons_zero, List.set_cons_succ, i64_w, i32_w]
          rfl
        refine pure_ (i := 1) (N := some 26) (v := ?_) (a' := ?_) #[true, true, false, false, false, false, false, false, false, false, false, false, false, false] rfl rfl (by kernel_rfl) (fun _ _ _ h => h) (Or.inl ⟨by rfl, ?_⟩) ?_ ?_
        rotate_left
        · intro w'
          go_simp
          with_reducible rfl
        rotate_left
        · simp only [Act.put, List.setIfInBounds_toArray, List.set_cons_zero, List.set_cons_succ, i64_w, i32_w]
          rfl
        refine pure_ (i := 2) (N := some 27) (v := ?_) (a' := ?_) #[true, true, true, false, false, false, false, false, false, false, false, false, false, false] rfl rfl (by kernel_rfl) (fun _ _ _ h => h) (Or.inl ⟨by rfl, ?_⟩) ?_ ?_
        rotate_left
        · intro w'
          go_simp
          with_reducible rfl
        rotate_left
        · simp only [Act.put, List.setIfInBounds_toArray, List.set_cons_zero, List.set_cons_succ, i64_w, i32_w]
          rfl
        refine pure_ (i := 4) (N := some 29) (v := ?_) (a' := ?_) #[true, true, true, false, true, false, false, false, false, false, false, false, false, false] rfl rfl (by kernel_rfl) (fun _ _ _ h => h) (Or.inl ⟨by rfl, ?_⟩) ?_ ?_
        rotate_left
        · intro w'
          go_simp
          with_reducible rfl
        rotate_left
        · simp only [Act.put, List.setIfInBounds_toArray, List.set_cons_zero, List.set_cons_succ, i64_w, i32_w]
          rfl
        refine pure_ (i := 5) (N := some 30) (v := ?_) (a' := ?_) #[true, true, true, false, true, true, false, false, false, false, false, false, false, false] rfl rfl (by kernel_rfl) (fun _ _ _ h => h) (Or.inl ⟨by rfl, ?_⟩) ?_ ?_
        rotate_left
        · intro w'
          go_simp
          with_reducible rfl
        rotate_left
        · simp only [Act.put, List.setIfInBounds_toArray, List.set_cons_zero, List.set_cons_succ, i64_w, i32_w]
          rfl
        refine pure_ (i := 6) (N := some 31) (v := ?_) (a' := ?_) #[true, true, true, false, true, true, true, false, false, false, false, false, false, false] rfl rfl (by kernel_rfl) (fun _ _ _ h => h) (Or.inl ⟨by rfl, ?_⟩) ?_ ?_
        rotate_left
        · intro w'
          go_simp
          with_reducible rfl
        rotate_left
        · simp only [Act.put, List.setIfInBounds_toArray, List.set_cons_zero, List.set_cons_succ, i64_w, i32_w]
          rfl
        refine pure_ (i := 7) (N := some 32) (v := ?_) (a' := ?_) #[true, true, true, false, true, true, true, true, false, false, false, false, false, false] rfl rfl (by kernel_rfl) (fun _ _ _ h => h) (Or.inl ⟨by rfl, ?_⟩) ?_ ?_
        rotate_left
        · intro w'
          go_simp
          with_reducible rfl
        rotate_left
        · simp only [Act.put, List.setIfInBounds_toArray, List.set_cons_zero, List.set_cons_succ, i64_w, i32_w]
          rfl
        refine pure_ (i := 9) (N := some 34) (v := ?_) (a' := ?_) #[true, true, true, false, true, true, true, true, false, true, false, false, false, false] rfl rfl (by kernel_rfl) (fun _ _ _ h => h) (Or.inl ⟨by rfl, ?_⟩) ?_ ?_
        rotate_left
        · intro w'
          go_simp
          with_reducible rfl
        rotate_left
        · simp only [Act.put, List.setIfInBounds_toArray, List.set_cons_zero, List.set_cons_succ, i64_w, i32_w]
          rfl
        refine take_ (i := 3) (N := some 28) (v := ?_) (a' := ?_) #[true, true, true, true, true, true, true, true, false, true, false, false, false, false] rfl rfl (by kernel_rfl) (fun _ _ _ h => h) (Or.inl ⟨by rfl, ?_⟩) hHeld ?_ ?_
        rotate_left
        · rintro w' ⟨s0, s1, s2⟩
          go_simp
          with_reducible rfl
        rotate_left
        · simp only [Act.put, List.setIfInBounds_toArray, List.set_cons_zero, List.set_cons_succ, i64_w, i32_w]
          rfl
        refine take_ (i := 8) (N := some 33) (v := ?_) (a' := ?_) #[true, true, true, true, true, true, true, true, true, true, false, false, false, false] rfl rfl (by kernel_rfl) (fun _ _ _ h => h) (Or.inl ⟨by rfl, ?_⟩) hHeld ?_ ?_
        rotate_left
        · rintro w' ⟨s0, s1, s2⟩
          go_simp
          with_reducible rfl
        rotate_left
        · simp only [Act.put, List.setIfInBounds_toArray, List.set_cons_zero, List.set_cons_succ, i64_w, i32_w]
          rfl
        refine pure_ (i := 10) (N := some 35) (v := ?_) (a' := ?_) #[true, true, true, true, true, true, true, true, true, true, true, false, false, false] rfl rfl (by kernel_rfl) (fun _ _ _ h => h) (Or.inl ⟨by rfl, ?_⟩) ?_ ?_
        rotate_left
        · intro w'
          go_simp
          with_reducible rfl
        rotate_left
        · simp only [Act.put, List.setIfInBounds_toArray, List.set_cons_zero, List.set_cons_succ, i64_w, i32_w]
          rfl
        refine take_ (i := 11) (N := some 36) (v := ?_) (a' := ?_) #[true, true, true, true, true, true, true, true, true, true, true, true, false, false] rfl rfl (by kernel_rfl) (fun _ _ _ h => h) (Or.inl ⟨by rfl, ?_⟩) hHeld ?_ ?_
        rotate_left
        · rintro w' ⟨s0, s1, s2⟩
          go_simp
          with_reducible rfl
        rotate_left
        · simp only [Act.put, List.setIfInBounds_toArray, List.set_cons_zero, List.set_cons_succ, i64_w, i32_w]
          rfl
        refine pure_ (i := 12) (N := some 37) (v := ?_) (a' := ?_) #[true, true, true, true, true, true, true, true, true, true, true, true, true, false] rfl rfl (by kernel_rfl) (fun _ _ _ h => h) (Or.inl ⟨by rfl, ?_⟩) ?_ ?_
        rotate_left
        · intro w'
          go_simp
          with_reducible rfl
        rotate_left
        · simp only [Act.put, List.setIfInBounds_toArray, List.set_cons_zero, List.set_cons_succ, i64_w, i32_w]
          rfl
        refine last_ (i := 13) (N := none) #[true, true, true, true, true, true, true, true, true, true, true, true, true, true] rfl rfl (by kernel_rfl) (by decide) (fun K hK => ?_)
        refine skip_ (w1 := ?_) (by rfl) rfl ?_ ?_
        rotate_left
        · go_simp
          rfl
        refine hK.out _ _ ?_
        clear hK K
        refine done_ (by kernel_rfl) ?_

        go_wp2
        go_roundw
        case rel =>
          obtain ⟨q1, q2, q3⟩ := HSET.out
          rw [HE1.out] at q1
          exact ⟨i + 1, by omega, by go_num, ⟨q1.below (Below.refl _ _)⟩, ⟨(Kept.drew HK.out).then_ q2 (fun k hk => .inl hk)⟩, ⟨(below_drew HB.out).trans q3⟩⟩
        case measure => simp [intOf]; omega
      · have hz1' : wr.cell? ⟨r, 1, none⟩ = some (.slice (some ⟨ge, 0, none⟩) nn ce) := by rw [← HM2.out]; exact hz1
        have hEl : x.E.length ≤ i := by rw [← HNN.out]; omega
        have he : x.E.take i ++ x.S.drop i = x.E := by rw [List.take_of_length_le hEl, List.drop_eq_nil_of_le (by rw [HF0.out.1]; exact hEl), List.append_nil]
        rw [he] at HD
        clear h1 h2 h3 h4 h5 h6 h7 hz0 hz1 he hEl HM1
        go_wp2_with (first | (go_at_call 56; refine (rk_done _ _).mono ?_; rintro e' w' ⟨rfl, rfl⟩))
        go_ret
        unfold Rk.flush
        rw [if_pos HG.out, HG.out.2]
        exact ⟨rfl, HD.out, HK.out, HB.out⟩
  · have HG := Aside0.mk hg
    clear hg
    cases g1 : x.stroke.2.1 with
    | false =>
      have G1 := Aside0.mk g1
      clear g1
      go_wp2_with (first | (go_at_call 56; refine (rk_done _ _).mono ?_; rintro e' w' ⟨rfl, rfl⟩))
      go_ret
      unfold Rk.flush
      rw [if_neg HG.out]
      exact ⟨rfl, HD3.out, HK3.out, HB3.out⟩
    | true =>
      have g2 : x.stroke.2.2 = true := by
        cases h : x.stroke.2.2 with
        | false => exact absurd ⟨g1, h⟩ HG.out
        | true => rfl
      rw [g2]
      have G2 := Aside0.mk g2
      clear g1 g2
      go_wp2_with (first | (go_at_call 56; refine (rk_done _ _).mono ?_; rintro e' w' ⟨rfl, rfl⟩))
      go_ret
      unfold Rk.flush
      rw [if_neg HG.out, G2.out]
      exact ⟨rfl, HD3.out, HK3.out, HB3.out⟩
def Rk.read (x : Rk) (i : Int) : List Int × Int := if 0 ≤ i ∧ i < (x.E.length : Int) then (if x.off = true then ([], 103) else (x.E.getD i.toNat [], 0)) else ([], 100)
set_option maxHeartbeats 2000000 in
set_option maxRecDepth 100000 in
theorem rk_Read (r : Nat) (i : Int) (w : World) (base : Nat) (ok : Nat → Prop) (x : Rk) (h : RkAt w base ok r x) :
    Calls Try.prog 25 #[.pointer (some ⟨r, 0, none⟩), .int .i64 i] w fun e w' => ∃ v, e = .returned (.tuple #[v, .int .i64 (x.read i).2]) ∧ (Kd.int .u8).R 5 w' w.heap.size (fun _ => True) v (x.read i).1 ∧ Below w.heap.size w w' := by
  obtain ⟨A0, c0, A1, c1, A2, c2, _, hy1, _, hy3, _, _, _, _, hC1, _⟩ := h.cells
  have HC1 := Aside0.mk hC1
  have HF := Aside0.mk h.fits
  have hds := Try.underlying88
  have hmx : x.E.length ≤ 16384 := HF.out.2.2.1
  clear hC1 h
  by_cases k1 : i < 0
  · have t1 : decide (i < 0) = true := decide_eq_true k1
    have HN : Aside0 (x.read i = ([], 100)) := ⟨by unfold Rk.read; rw [if_neg (by omega)]⟩
    clear k1
    go_enter Try.func25, Try.ntmps25
    go_wp2
    go_ret2
    rw [HN.out]
    exact ⟨_, rfl, Kd.R_nil _ _ _ _ _, Below.refl _ _⟩
  · have t1 : decide (i < 0) = false := decide_eq_false k1
    by_cases k2 : i ≥ (x.E.length : Int)
    · have t2 : decide (i ≥ (x.E.length : Int)) = true := decide_eq_true k2
      have t3 : decide ((x.E.length : Int) ≤ i) = true := decide_eq_true k2
      have HN : Aside0 (x.read i = ([], 100)) := ⟨by unfold Rk.read; rw [if_neg (by omega)]⟩
      clear k1 k2
      go_enter Try.func25, Try.ntmps25
      go_wp2
      go_ret2
      rw [HN.out]
      exact ⟨_, rfl, Kd.R_nil _ _ _ _ _, Below.refl _ _⟩
    · obtain ⟨m, rfl⟩ : ∃ m : Nat, i = (m : Int) := ⟨i.toNat, by omega⟩
      have t2 : decide ((m : Int) ≥ (x.E.length : Int)) = false := decide_eq_false k2
      have t3 : decide ((x.E.length : Int) ≤ (m : Int)) = false := decide_eq_false k2
      have t3' : decide (x.E.length ≤ m) = false := decide_eq_false (by omega)
      have hm : m < x.E.length := by omega
      cases ho : x.off with
      | true =>
        rw [ho] at hy3
        have HN : Aside0 (x.read (m : Int) = ([], 103)) := ⟨by unfold Rk.read; rw [if_pos (by omega), if_pos ho]⟩
        clear k1 k2 ho
        go_enter Try.func25, Try.ntmps25
        go_wp2
        go_ret2
        rw [HN.out]
        exact ⟨_, rfl, Kd.R_nil _ _ _ _ _, Below.refl _ _⟩
      | false =>
        rw [ho] at hy3
        have HN : Aside0 (x.read (m : Int) = (x.E.getD m [], 0)) := ⟨by unfold Rk.read; rw [if_pos (by omega), if_neg (by rw [ho]; decide)]; rfl⟩
        obtain ⟨ad, B0, q0, rfl, hcell, hq0, hCs⟩ := at_L3 HC1.out (m : Int) (by omega) (by omega)
        rw [Int.toNat_natCast] at hcell
        have hxl : rd_L3 x.E (m : Int) = x.E.getD m [] := by unfold rd_L3; rw [Int.toNat_natCast]
        rw [hxl] at hcell hq0 hCs
        obtain ⟨s, hs⟩ : ∃ s, s = x.E.getD m [] := ⟨_, rfl⟩
        rw [← hs] at hcell hq0 hCs
        have HS := Aside0.mk hs
        have HSL : Aside0 (s.length = 64) := ⟨by rw [hs, List.getD_eq_getElem?_getD, List.getElem?_eq_getElem hm]; exact HF.out.2.2.2.2 _ (List.getElem_mem _)⟩
        have HCs := Aside0.mk hCs
        have HQ0 := Aside0.mk hq0
        clear k1 k2 ho hxl hs hCs hq0
        go_enter Try.func25, Try.ntmps25
        go_wp2_with (first | (go_at_call 20; refine (dk_copyB B0 q0 s _ HCs.out HQ0.out (by rw [HSL.out]; decide)).mono ?_; rintro e' w5 ⟨v, rfl, hR, hb⟩; have HR := Aside0.mk hR; have HB := Aside0.mk hb; clear hR hb))
        go_ret2
        rw [HN.out, ← HS.out]
        exact ⟨_, rfl, HR.out, HB.out⟩

end Go.Proofs.Ytpkhpfgojhojaaa.PDk

namespace Go.Proofs.Ytpkhpfgojhojaaa.PDk
open Go.RowKit Go.Proofs.YtpkhpfgojhojaaaW.PrintWords Go.Proofs.YtpkhpfgojhojaaaW.PrintLast Go.Proofs.YtpkhpfgojhojaaaW.PrintMore
attribute [local go_sem] max2_int min2_int max_two min_two max_three min_three max_four min_four
set_option linter.unusedVariables false
set_option linter.unusedSimpArgs false
-- IMPORT: Derived.Test.@N@WOwn
-- IMPORT: Derived.Test.@N@DRkflush
def rcrashL (S E : List (List Int)) (ps : List Int) : Nat → Nat → Nat → List Int → List Int
  | 0, _, _, b => b
  | k + 1, i, a, b => if S.getD i [] = E.getD i [] then rcrashL S E ps k (i + 1) a (b ++ S.getD i []) else rcrashL S E ps k (i + 1) (a + 1) (b ++ (if a < ps.length ∧ ¬ (rd ps (a : Int)).tmod 2 = 0 then E.getD i [] else S.getD i []))
def Rk.crash (x : Rk) (ps : List Int) : List Int := rcrashL x.S x.E ps x.E.length 0 0 []
set_option maxHeartbeats 8000000 in
set_option maxRecDepth 100000 in
theorem rk_Crash (r : Nat) (P : Option Addr) (cp : Nat) (ps : List Int) (w : World) (base : Nat) (ok : Nat → Prop) (x : Rk) (h : RkAt w base ok r x) (hP : (Kd.int .i64).C w P ps.length ps) (hcp : ps.length ≤ cp) :
    Calls Try.prog 26 #[.pointer (some ⟨r, 0, none⟩), .slice P ps.length cp] w fun e w' => ∃ v, e = .returned v ∧ (Kd.int .u8).R 5 w' w.heap.size (fun _ => True) v (x.crash ps) ∧ Below w.heap.size w w' := by
  have H := Aside0.mk h
  obtain ⟨A0, c0, A1, c1, A2, c2, hy0, hy1, _, _, _, _, _, hC0, hC1, _⟩ := h.cells
  have HC0 := Aside0.mk hC0
  have HC1 := Aside0.mk hC1
  have HY0 := Aside0.mk hy0
  have HY1 := Aside0.mk hy1
  have HF := Aside0.mk h.fits
  have HP := Aside0.mk hP
  have hds := Try.underlying88
  have hpm := hP.2.1
  obtain ⟨nn, hnn⟩ : ∃ nn, nn = x.E.length := ⟨_, rfl⟩
  have HNN := Aside0.mk hnn
  have hmx : nn ≤ 16384 := by rw [hnn]; exact HF.out.2.2.1
  clear hC0 hC1 h hP hy0 hy1 hnn
  go_enter Try.func26, Try.ntmps26
  go_wp2
  go_loopw [5, 6, 7] (fun v5 v6 v7 w' => ∃ (i a : Nat) (bb : List Int), i ≤ nn ∧ a ≤ i ∧ v6 = .int .i64 a ∧ v7 = .int .i64 i ∧ Aside0 (bb.length = i * 64) ∧ Aside0 (rcrashL x.S x.E ps (nn - i) i a bb = x.crash ps) ∧ Aside0 ((Kd.int .u8).R 5 w' w.heap.size (fun _ => True) v5 bb) ∧ Aside0 (Below w.heap.size w w')) (fun _ _ v7 _ => nn - (intOf v7).toNat)
  case atStart => exact ⟨0, 0, [], Nat.zero_le _, Nat.zero_le _, rfl, rfl, ⟨rfl⟩, ⟨by unfold Rk.crash; rw [HNN.out]; rfl⟩, ⟨Kd.R_nil _ _ _ _ _⟩, ⟨Below.refl _ _⟩⟩
  case round =>
    obtain ⟨i, a, bb, hi, hai, rfl, rfl, HLB, HCR, HRB, HB⟩ := hrel
    have hy1 : wr.cell? ⟨r, 1, none⟩ = some (.slice A1 nn c1) := by rw [HNN.out]; exact pw_cell_below HB.out HY1.out
    by_cases hlt : i < nn
    · have hEl : i < x.E.length := by rw [← HNN.out]; exact hlt
      have hSl : i < x.S.length := by rw [HF.out.1]; exact hEl
      obtain ⟨aS, BS, qS, rfl, hcS, hqS, hCS⟩ := at_L3 HC0.out (i : Int) (by omega) (by omega)
      obtain ⟨aE, BE, qE, rfl, hcE, hqE, hCE⟩ := at_L3 HC1.out (i : Int) (by omega) (by omega)
      rw [Int.toNat_natCast] at hcS hcE
      have hxS : rd_L3 x.S (i : Int) = x.S.getD i [] := by unfold rd_L3; rw [Int.toNat_natCast]
      have hxE : rd_L3 x.E (i : Int) = x.E.getD i [] := by unfold rd_L3; rw [Int.toNat_natCast]
      rw [hxS] at hcS hqS hCS
      rw [hxE] at hcE hqE hCE
      have h1 : (x.S.getD i []).length = 64 := by rw [List.getD_eq_getElem?_getD, List.getElem?_eq_getElem hSl]; exact HF.out.2.2.2.1 _ (List.getElem_mem _)
      have h2 : (x.E.getD i []).length = 64 := by rw [List.getD_eq_getElem?_getD, List.getElem?_eq_getElem hEl]; exact HF.out.2.2.2.2 _ (List.getElem_mem _)
      have hcr := HCR.out
      obtain ⟨m, hm⟩ : ∃ m, nn - i = m + 1 := ⟨nn - i - 1, by omega⟩
      rw [hm, rcrashL] at hcr
      obtain ⟨si, hsi⟩ : ∃ s, s = x.S.getD i [] := ⟨_, rfl⟩
      obtain ⟨ei, hei⟩ : ∃ s, s = x.E.getD i [] := ⟨_, rfl⟩
      rw [← hsi] at hcS hqS hCS h1 hcr
      rw [← hei] at hcE hqE hCE h2 hcr
      rw [h1] at hcS hqS hCS
      rw [h2] at hcE hqE hCE
      have HS64 := Aside0.mk h1
      have HE64 := Aside0.mk h2
      have HCS := Aside0.mk hCS
      have HCE := Aside0.mk hCE
      have hy0 : wr.cell? ⟨r, 0, none⟩ = some (.slice (some aS) x.S.length c0) := pw_cell_below HB.out HY0.out
      have hz0 := pw_cell_below HB.out hcS
      have hz1 := pw_cell_below HB.out hcE
      have hSlen : x.S.length = nn := by rw [HF.out.1, HNN.out]
      rw [hSlen] at hy0
      have HQS := Aside0.mk hqS
      have HQE := Aside0.mk hqE
      have HEQ : Aside0 (∀ W, Below w.heap.size w W → Calls Try.prog 19 #[.slice BS 64 qS, .slice BE 64 qE] W fun e w' => e = .returned (.bool (decide (si = ei))) ∧ Drawn0 W w') := ⟨fun W hW => by
        have := dk_eqB BS qS si BE qE ei W (by rw [HS64.out]; exact Kd.C_below HCS.out hW) (by rw [HS64.out]; exact HQS.out) (by rw [HE64.out]; exact Kd.C_below HCE.out hW) (by rw [HE64.out]; exact HQE.out) (by rw [HS64.out]; decide)
        rw [HS64.out, HE64.out] at this
        exact this⟩
      have hmm : nn - (i + 1) = m := by omega
      have HMM := Aside0.mk hmm
      clear hcS hcE hqS hqE hCS hCE h1 h2 hxS hxE hsi hei hSl hEl hSlen hm hmm HCR
      by_cases q1 : si = ei
      · rw [if_pos q1] at hcr
        have HNX : Aside0 (rcrashL x.S x.E ps (nn - (i + 1)) (i + 1) a (bb ++ si) = x.crash ps) := ⟨by rw [HMM.out]; exact hcr⟩
        rw [decide_eq_true q1] at HEQ
        clear q1 hcr
        go_wp2_with (first | (go_at_call 19; refine (HEQ.out _ HB.out).mono ?_; rintro e' w5 ⟨rfl, ⟨nd, rfl⟩⟩) | (at_builtin; refine Kd.R_append_row (Value.int .u8) (0 : Int) (h1 := fun _ => rfl) (w0 := w) w.heap.size rfl (.tmp 56) (.tmp 57) 30 5 (.int .u8 0) 1 rfl Try.underlying30 info5 rfl (by decide) u5 bb si BS 64 qS (fun _ => True) rfl rfl (fun _ _ => trivial) ?ho1 ?hr1 ?hb1 ?hs1 ?hl1 ?_; (case ho1 => exact Kd.R_drewN HRB.out _); (case hr1 => exact Kd.C_below HCS.out (pw_below_drewN HB.out _)); (case hb1 => exact pw_below_drewN HB.out _); (case hs1 => exact HB.out.size); (case hl1 => have := HLB.out; omega); intro v7 w7 hR hBB hg hat; have HR7 := Aside0.mk hR; have HB7 := Aside0.mk hBB; clear hR hBB hg hat))
        go_roundw
        case rel => exact ⟨i + 1, a, bb ++ si, by omega, by omega, by go_num, by first | rfl | go_num, ⟨by rw [List.length_append, HLB.out, HS64.out]; omega⟩, HNX, HR7, HB7⟩
        case measure => simp [intOf]; omega
      · rw [if_neg q1] at hcr
        rw [decide_eq_false q1] at HEQ
        clear q1
        by_cases q2 : a < ps.length
        · obtain ⟨aP, rfl, hcp2⟩ := Kd.at_int HP.out (a : Int) (by omega) (by omega)
          rw [Int.toNat_natCast] at hcp2
          obtain ⟨p, hp⟩ : ∃ p, p = rd ps (a : Int) := ⟨_, rfl⟩
          rw [← hp] at hcp2 hcr
          have hz2 := pw_cell_below HB.out hcp2
          clear hcp2 hp
          by_cases q3 : p.tmod 2 = 0
          · rw [if_neg (by rintro ⟨_, h⟩; exact h q3)] at hcr
            have HNX : Aside0 (rcrashL x.S x.E ps (nn - (i + 1)) (i + 1) (a + 1) (bb ++ si) = x.crash ps) := ⟨by rw [HMM.out]; exact hcr⟩
            have t2 : (p.tmod 2 != 0) = false := by rw [q3]; rfl
            clear q3 hcr
            go_wp2_with (first | (go_at_call 19; refine (HEQ.out _ HB.out).mono ?_; rintro e' w5 ⟨rfl, ⟨nd, rfl⟩⟩) | (at_builtin; refine Kd.R_append_row (Value.int .u8) (0 : Int) (h1 := fun _ => rfl) (w0 := w) w.heap.size rfl (.tmp 56) (.tmp 57) 30 5 (.int .u8 0) 1 rfl Try.underlying30 info5 rfl (by decide) u5 bb si BS 64 qS (fun _ => True) rfl rfl (fun _ _ => trivial) ?ho2 ?hr2 ?hb2 ?hs2 ?hl2 ?_; (case ho2 => exact Kd.R_drewN HRB.out _); (case hr2 => exact Kd.C_below HCS.out (pw_below_drewN HB.out _)); (case hb2 => exact pw_below_drewN HB.out _); (case hs2 => exact HB.out.size); (case hl2 => have := HLB.out; omega); intro v7 w7 hR hBB hg hat; have HR7 := Aside0.mk hR; have HB7 := Aside0.mk hBB; clear hR hBB hg hat))
            go_roundw
            case rel => exact ⟨i + 1, a + 1, bb ++ si, by omega, by omega, by go_num, by first | rfl | go_num, ⟨by rw [List.length_append, HLB.out, HS64.out]; omega⟩, HNX, HR7, HB7⟩
            case measure => simp [intOf]; omega
          · rw [if_pos ⟨q2, q3⟩] at hcr
            have HNX : Aside0 (rcrashL x.S x.E ps (nn - (i + 1)) (i + 1) (a + 1) (bb ++ ei) = x.crash ps) := ⟨by rw [HMM.out]; exact hcr⟩
            have t2 : (p.tmod 2 != 0) = true := by simpa using q3
            clear q3 hcr
            go_wp2_with (first | (go_at_call 19; refine (HEQ.out _ HB.out).mono ?_; rintro e' w5 ⟨rfl, ⟨nd, rfl⟩⟩) | (at_builtin; refine Kd.R_append_row (Value.int .u8) (0 : Int) (h1 := fun _ => rfl) (w0 := w) w.heap.size rfl (.tmp 56) (.tmp 57) 30 5 (.int .u8 0) 1 rfl Try.underlying30 info5 rfl (by decide) u5 bb ei BE 64 qE (fun _ => True) rfl rfl (fun _ _ => trivial) ?ho3 ?hr3 ?hb3 ?hs3 ?hl3 ?_; (case ho3 => exact Kd.R_drewN HRB.out _); (case hr3 => exact Kd.C_below HCE.out (pw_below_drewN HB.out _)); (case hb3 => exact pw_below_drewN HB.out _); (case hs3 => exact HB.out.size); (case hl3 => have := HLB.out; omega); intro v7 w7 hR hBB hg hat; have HR7 := Aside0.mk hR; have HB7 := Aside0.mk hBB; clear hR hBB hg hat))
            go_roundw
            case rel => exact ⟨i + 1, a + 1, bb ++ ei, by omega, by omega, by go_num, by first | rfl | go_num, ⟨by rw [List.length_append, HLB.out, HE64.out]; omega⟩, HNX, HR7, HB7⟩
            case measure => simp [intOf]; omega
        · rw [if_neg (by rintro ⟨h, _⟩; exact q2 h)] at hcr
          have HNX : Aside0 (rcrashL x.S x.E ps (nn - (i + 1)) (i + 1) (a + 1) (bb ++ si) = x.crash ps) := ⟨by rw [HMM.out]; exact hcr⟩
          have t2 : decide (a < ps.length) = false := decide_eq_false q2
          have t2' : decide ((a : Int) < (ps.length : Int)) = false := decide_eq_false (by omega)
          clear hcr
          go_wp2_with (first | (go_at_call 19; refine (HEQ.out _ HB.out).mono ?_; rintro e' w5 ⟨rfl, ⟨nd, rfl⟩⟩) | (at_builtin; refine Kd.R_append_row (Value.int .u8) (0 : Int) (h1 := fun _ => rfl) (w0 := w) w.heap.size rfl (.tmp 56) (.tmp 57) 30 5 (.int .u8 0) 1 rfl Try.underlying30 info5 rfl (by decide) u5 bb si BS 64 qS (fun _ => True) rfl rfl (fun _ _ => trivial) ?ho4 ?hr4 ?hb4 ?hs4 ?hl4 ?_; (case ho4 => exact Kd.R_drewN HRB.out _); (case hr4 => exact Kd.C_below HCS.out (pw_below_drewN HB.out _)); (case hb4 => exact pw_below_drewN HB.out _); (case hs4 => exact HB.out.size); (case hl4 => have := HLB.out; omega); intro v7 w7 hR hBB hg hat; have HR7 := Aside0.mk hR; have HB7 := Aside0.mk hBB; clear hR hBB hg hat))
          go_roundw
          case rel => exact ⟨i + 1, a + 1, bb ++ si, by omega, by omega, by go_num, by first | rfl | go_num, ⟨by rw [List.length_append, HLB.out, HS64.out]; omega⟩, HNX, HR7, HB7⟩
          case measure => simp [intOf]; omega
    · have he : nn - i = 0 := by omega
      have h1 := HCR.out
      rw [he, rcrashL] at h1
      have HE := Aside0.mk h1
      clear he h1
      go_wp2
      go_ret
      rw [← HE.out]
      exact ⟨_, rfl, HRB.out, HB.out⟩

end Go.Proofs.Ytpkhpfgojhojaaa.PDk

namespace Go.Proofs.Ytpkhpfgojhojaaa.PDk
open Go.RowKit Go.Proofs.YtpkhpfgojhojaaaW.PrintWords Go.Proofs.YtpkhpfgojhojaaaW.PrintLast Go.Proofs.YtpkhpfgojhojaaaW.PrintMore
attribute [local go_sem] max2_int min2_int max_two min_two max_three min_three max_four min_four   -- for this text's walks alone
set_option linter.unusedVariables false
set_option linter.unusedSimpArgs false

/-! ### gangwayref0_CopyTroubles: function 54 -/
def gangwayref0_CopyTroubles.l0 : Nat → List (S45) → List (S45) → Int → Option ((List (S45)))
  | 0, _, _, _ => none
  | k + 1, x0, x3, x4 => if x4 < (x0.length : Int) then (if 0 ≤ x4 then (if x3.length < 17592186044416 then (gangwayref0_CopyTroubles.l0 k x0 (x3 ++ [(⟨(rd_T45 x0 x4).f0⟩ : S45)]) (wrap64 (x4 + 1))) else (none)) else (none)) else (some x3)
def gangwayref0_CopyTroubles.f (k : Nat) (l0 : List (S45)) : Option ((List (S45))) := gangwayref0_CopyTroubles.l0 k l0 ([] : List (S45)) 0
theorem gangwayref0_CopyTroubles.mono_l : ∀ k, (∀ y0 y1 y2, LeO (gangwayref0_CopyTroubles.l0 k y0 y1 y2) (gangwayref0_CopyTroubles.l0 (k + 1) y0 y1 y2))
  | 0 => fun _ _ _ r h => by simp [gangwayref0_CopyTroubles.l0] at h
  | k + 1 => by
    have ih0 := gangwayref0_CopyTroubles.mono_l k
    · intro y0 y1 y2
      unfold gangwayref0_CopyTroubles.l0
      repeat' first
      | (with_reducible exact ih0 _ _ _)
      | (with_reducible exact LeO.refl _)
      | (with_reducible exact LeO.none _)
      | (with_reducible refine LeO.ite ?_ ?_)
      | (with_reducible refine LeO.bind ?_ (fun _ => ?_))
      | exact ih0 _ _ _
      | exact LeO.none _
      | refine LeO.ite ?_ ?_
      | refine LeO.bind ?_ (fun _ => ?_)
theorem gangwayref0_CopyTroubles.mono : ∀ a0 k, LeO (gangwayref0_CopyTroubles.f k a0) (gangwayref0_CopyTroubles.f (k + 1) a0) := by
  intro a0 k
  have ih0 := gangwayref0_CopyTroubles.mono_l k
  unfold gangwayref0_CopyTroubles.f
  repeat' first
      | (with_reducible exact ih0 _ _ _)
      | (with_reducible exact LeO.refl _)
      | (with_reducible exact LeO.none _)
      | (with_reducible refine LeO.ite ?_ ?_)
      | (with_reducible refine LeO.bind ?_ (fun _ => ?_))
      | exact ih0 _ _ _
      | exact LeO.none _
      | refine LeO.ite ?_ ?_
      | refine LeO.bind ?_ (fun _ => ?_)
set_option maxHeartbeats 8000000 in
set_option maxRecDepth 100000 in
theorem gangwayref0_CopyTroubles.calls (k : Nat) (A0 : Option Addr) (c0 : Nat) (l0 : List (S45)) (r : List (S45)) (w : World) (hr0 : Kd.C k45 w A0 l0.length l0) (hc0 : l0.length ≤ c0) (h : gangwayref0_CopyTroubles.f k l0 = some r) :
    Calls Try.prog 54 #[.slice A0 l0.length c0] w fun e w' => ∃ v0_ : Value, e = .returned (v0_) ∧ Kd.R k45 45 w' w.heap.size (fun _ => True) v0_ r ∧ Below w.heap.size w w' := by
  have hu45 := Try.underlying45
  have HR0 := Aside0.mk hr0
  have HC0 := Aside0.mk hc0
  clear hr0 hc0
  have HB := Aside0.mk (Below.refl w.heap.size w)
  have H : (gangwayref0_CopyTroubles.l0 k l0 ([] : List (S45)) 0) = some r := h
  clear h
  have H' := Aside0.mk H
  clear H
  go_enter Try.func54, Try.ntmps54
  go_wp2
  go_loopg [3, 4] k (fun kq v3 v4 w' => ∃ (x3_1 : List (S45)) (x4_1 : Int), v4 = .int .i64 x4_1 ∧ Aside0 (gangwayref0_CopyTroubles.l0 kq l0 x3_1 x4_1 = some r) ∧ Aside0 (kq ≤ k) ∧ Aside0 (Kd.R k45 45 w' w.heap.size (fun _ => True) v3 x3_1) ∧ Aside0 (Below w.heap.size w w'))
  case atStart => exact ⟨(([] : List (S45))), (0), (by first | rfl | (simp; done) | (simp [*]; done)), H', ⟨Nat.le_refl _⟩, ⟨by first | exact Kd.R_nil _ _ _ _ _ | exact Kd.N_nil _ _ _ _ _ | exact Kd.V_nil _ _ _ _ _ | exact Kd.Q_nil _ _ _ _ _ | exact Kd.S_nil _ _ _ _ _⟩, ⟨by repeat (first | (with_reducible first | exact HB.out | apply below_alloc | apply pw_below_drewN | apply below_drew1) | exact HB.out)⟩⟩
  case round =>
    clear H'
    obtain ⟨x3_1, x4_1, rfl, HA, HK1, HO_3, HB⟩ := hrel
    cases gk with
    | zero => exact absurd HA.out (by simp [gangwayref0_CopyTroubles.l0])
    | succ k1 =>
      have H := HA.out
      clear HA
      simp only [gangwayref0_CopyTroubles.l0] at H
      by_cases c2 : x4_1 < (l0.length : Int)
      · rw [if_pos c2] at H
        have c2b0 : decide (x4_1 < (l0.length : Int)) = true := decide_eq_true c2
        clear c2
        by_cases c3 : 0 ≤ x4_1
        · rw [if_pos c3] at H
          have c3b0 : decide (0 ≤ x4_1) = true := decide_eq_true c3
          clear c3
          by_cases c4 : x3_1.length < 17592186044416
          · rw [if_pos c4] at H
            have LMc4 := Aside0.mk c4
            clear c4
            obtain ⟨y146, hy146⟩ : ∃ y_ : List (S45), y_ = (x3_1 ++ [(⟨(rd_T45 l0 x4_1).f0⟩ : S45)]) := ⟨_, rfl⟩
            replace H : (gangwayref0_CopyTroubles.l0 k1 l0 y146 (wrap64 (x4_1 + 1))) = some r := by first | (rw [hy146]; with_reducible exact H) | (have H2_ := (Option.bind_some _ _).symm.trans H; rw [hy146]; with_reducible exact H2_) | (have H2_ := (Option.bind_some _ _).symm.trans H; with_reducible exact H2_) | with_reducible exact H | (rw [hy146]; exact H) | exact H
            have Ny146 := Aside0.mk hy146
            clear hy146
            have H' := Aside0.mk H
            clear H
            have p145 : 0 ≤ (x4_1 : Int) := of_decide_eq_true (by first | (with_reducible assumption) | assumption)
            have q145 : x4_1 < (l0.length : Int) := of_decide_eq_true (by first | (with_reducible assumption) | assumption)
            obtain ⟨ad145, e145, hx145_0⟩ := at_T45 HR0.out x4_1 p145 q145
            cases e145
            replace hx145_0 := (HB.out.cell (World.block_lt_of_cell? w _ hx145_0)).trans hx145_0
            replace p145 := eq_true p145
            replace q145 := eq_true q145
            go_wp2_with (first | ((with_reducible refine gate_builtin (b := .append) (xs := #[.tmp 11, .tmp 16]) rfl ?_); at_builtin; refine Kd.R_append k45 (w0 := w) w.heap.size rfl (.tmp 11) (.tmp 16) 22 45 (.agg #[(.int .i64 0)]) 8 rfl Try.underlying22 info45 rfl (by decide) (by omega) u3 x3_1 (⟨(rd_T45 l0 x4_1).f0⟩ : S45) [.int .i64 ((rd_T45 l0 x4_1).f0)] (fun _ => True) (fun _ => False) rfl rfl ?aP (fun _ hk => hk.elim) ?aF ?aO ?aB ?aS ?aL ?_; (case aP => exact k45_mkM _ _ _ (⟨(rd_T45 l0 x4_1).f0⟩ : S45)); (case aB => exact (by repeat (first | (with_reducible first | exact HB.out | apply below_alloc | apply pw_below_drewN | apply below_drew1) | exact HB.out))); (case aF => exact (fun _ _ => trivial)); (case aO => exact (by (with_reducible repeat (first | apply Kd.R_alloc | apply Kd.R_drewN | apply Kd.R_drew)); exact HO_3.out)); (case aS => exact (below_size (by repeat (first | (with_reducible first | exact HB.out | apply below_alloc | apply pw_below_drewN | apply below_drew1) | exact HB.out)))); (case aL => have := LMc4.out; omega); intro v147 w5 ho hb hg hat; rw [← Ny146.out] at ho; have n0_ := Aside0.mk (hb); have n1_ := Aside0.mk (ho); clear HB; clear HO_3; have HB := n0_; have HO148 := n1_; clear n0_ n1_; clear ho hb hg hat))
            go_roundg k1
            case measure => have := HK1.out; omega
            case rel => exact ⟨(y146), (wrap64 (x4_1 + 1)), (by first | rfl | (simp; done) | (simp [*]; done)), H', ⟨by have := HK1.out; omega⟩, ⟨by (with_reducible repeat (first | apply Kd.R_alloc | apply Kd.R_drewN | apply Kd.R_drew)); exact HO148.out⟩, ⟨by repeat (first | (with_reducible first | exact HB.out | apply below_alloc | apply pw_below_drewN | apply below_drew1) | exact HB.out)⟩⟩
          · rw [if_neg c4] at H
            exact absurd H (by simp)
        · rw [if_neg c3] at H
          exact absurd H (by simp)
      · rw [if_neg c2] at H
        have c2b0 : decide (x4_1 < (l0.length : Int)) = false := decide_eq_false c2
        clear c2
        obtain rfl := Option.some.inj H
        go_wp2
        go_ret
        exact ⟨_, by first | rfl | (simp [errW_none, errW_some] <;> rfl) | (simp [*, errW_none, errW_some] <;> rfl), by (with_reducible repeat (first | apply Kd.R_alloc | apply Kd.R_drewN | apply Kd.R_drew)); exact HO_3.out, by repeat (first | (with_reducible first | exact HB.out | apply below_alloc | apply pw_below_drewN | apply below_drew1) | exact HB.out)⟩

-- NOT PRINTED: function 23 (gangwayref11_New)

end Go.Proofs.Ytpkhpfgojhojaaa.PDk

namespace Go.Proofs.Ytpkhpfgojhojaaa.PDk
open Go.RowKit Go.Proofs.YtpkhpfgojhojaaaW.PrintWords Go.Proofs.YtpkhpfgojhojaaaW.PrintLast Go.Proofs.YtpkhpfgojhojaaaW.PrintMore
attribute [local go_sem] max2_int min2_int max_two min_two max_three min_three max_four min_four
set_option linter.unusedVariables false
set_option linter.unusedSimpArgs false
-- IMPORT: Derived.Test.@N@WOwn
-- IMPORT: Derived.Test.@N@DRkcrash
theorem rdT_get (a : List S45) (i : Nat) (h : i < a.length) : rd_T45 a (i : Int) = a[i] := by
  unfold rd_T45; rw [Int.toNat_natCast, List.getD_eq_getElem?_getD, List.getElem?_eq_getElem h]; rfl
theorem copyT_l0 (a : List S45) (hm : a.length < 17592186044416) : ∀ (d i : Nat), i + d = a.length → gangwayref0_CopyTroubles.l0 (d + 1) a (a.take i) (i : Int) = some a
  | 0, i, h => by rw [gangwayref0_CopyTroubles.l0, if_neg (by omega), List.take_of_length_le (by omega)]
  | d + 1, i, h => by
    rw [gangwayref0_CopyTroubles.l0, if_pos (by omega), if_pos (by omega), if_pos (by rw [List.length_take]; omega), up64 (by omega), rdT_get a i (by omega)]
    rw [show (⟨a[i].f0⟩ : S45) = a[i] from rfl, take_next a i (by omega)]
    exact copyT_l0 a hm d (i + 1) (by omega)
def secsL (I : List Int) (j : Nat) : List (List Int) := (List.range j).map (sec I)
theorem secsL_next (I : List Int) (j : Nat) : secsL I j ++ [sec I j] = secsL I (j + 1) := by unfold secsL; rw [List.range_succ, List.map_append]; rfl
theorem length_secsL (I : List Int) (j : Nat) : (secsL I j).length = j := by unfold secsL; rw [List.length_map, List.length_range]
def Rk.new (I : List Int) (ts : List S45) : Rk := { S := secsL I (I.length / 64), E := secsL I (I.length / 64), ts := ts, off := false, n := 0 }
/-- The page's disk being made. -/
def RkMk (w : World) (base r : Nat) (I : List Int) (ts : List S45) (j : Nat) : Prop :=
  ∃ v0 v1 vt : Value, w.heap[r]? = some (.cells #[v0, v1, vt, .bool false, .int .i64 0] 88 (0, 0)) ∧ (Kd.slice 5 (Kd.int .u8)).R 30 w base (fun k => True ∧ some k ≠ v1.ownBlock) v0 (secsL I j) ∧ (Kd.slice 5 (Kd.int .u8)).R 30 w base (fun k => True ∧ some k ≠ v0.ownBlock) v1 (secsL I j) ∧
    Kd.R k45 45 w base (fun _ => True) vt ts ∧ base ≤ r
theorem RkMk.done {w : World} {base r : Nat} {I : List Int} {ts : List S45} (h : RkMk w base r I ts (I.length / 64)) (hI : I.length % 64 = 0 ∧ 64 ≤ I.length ∧ I.length ≤ 1048576) : RkAt w base (fun _ => True) r (Rk.new I ts) := by
  obtain ⟨v0, v1, vt, h1, h2, h3, h4, h5⟩ := h
  obtain ⟨gs, cs, rfl, _⟩ := Kd.R_form h2 (by rw [length_secsL]; omega)
  obtain ⟨ge, ce, rfl, _⟩ := Kd.R_form h3 (by rw [length_secsL]; omega)
  have hs : ∀ s ∈ secsL I (I.length / 64), s.length = 64 := fun s hs => by
    obtain ⟨j, hj, rfl⟩ := List.mem_map.1 hs
    exact length_sec I j (by have := List.mem_range.1 hj; omega)
  exact ⟨gs, cs, ge, ce, vt, h1, Kd.R_mono h2 (fun k hk => ⟨trivial, fun e => hk.2 (by rw [e]; rfl)⟩), Kd.R_mono h3 (fun k hk => ⟨trivial, fun e => hk.2 (by rw [e]; rfl)⟩), h4, h5, trivial, rfl, by show 0 < (secsL I _).length; rw [length_secsL]; omega, by show (secsL I _).length ≤ _; rw [length_secsL]; omega, hs, hs⟩
set_option maxHeartbeats 8000000 in
set_option maxRecDepth 100000 in
theorem rk_New (g c : Nat) (I : List Int) (T : Option Addr) (ct : Nat) (ts : List S45) (w : World) (hI : (Kd.int .u8).C w (some ⟨g, 0, none⟩) I.length I) (hc : I.length ≤ c) (hT : Kd.C k45 w T ts.length ts) (htc : ts.length ≤ ct) (hgood : I.length % 64 = 0 ∧ 64 ≤ I.length ∧ I.length ≤ 1048576) (htm : ts.length < 17592186044416) :
    Calls Try.prog 23 #[.slice (some ⟨g, 0, none⟩) I.length c, .slice T ts.length ct] w fun e w' => ∃ r, e = .returned (.pointer (some ⟨r, 0, none⟩)) ∧ RkAt w' w.heap.size (fun _ => True) r (Rk.new I ts) ∧ Below w.heap.size w w' := by
  have HG := Aside0.mk hgood
  have HI := Aside0.mk hI
  have HCI := Aside0.mk hc
  have HT := Aside0.mk hT
  have HTC := Aside0.mk htc
  have HTM := Aside0.mk htm
  have hmax : I.length ≤ 1048576 := hgood.2.2
  have hds := Try.underlying88
  have hinfo : (Try.prog.info? 30).map (fun i => (i.zero, i.size, i.bytes)) = some (some (.slice none 0 0), 1, 24) := by kernel_rfl
  have HINF := Aside0.mk hinfo
  clear hgood hI hc hT htc htm hinfo
  go_enter Try.func23, Try.ntmps23
  go_wp2_with fail
  refine (gangwayref0_CopyTroubles.calls (ts.length + 1) T ct ts ts _ HT.out HTC.out (copyT_l0 ts HTM.out ts.length 0 (by omega))).mono ?_
  rintro e' w1 ⟨vt, rfl, hR, hb⟩
  obtain ⟨At, cta, rfl, _, _⟩ := Kd.R_reads hR
  have HRT := Aside0.mk hR
  have HB1 := Aside0.mk hb
  clear hR hb
  go_wp2
  obtain ⟨r, hr⟩ : ∃ r, r = w1.heap.size := ⟨_, rfl⟩
  have HSTART : Aside0 (RkMk (w1.alloc (.cells #[.slice none 0 0, .slice none 0 0, .slice At ts.length cta, .bool false, .int .i64 0] 88)) w.heap.size w1.heap.size I ts 0) := ⟨⟨_, _, _, blk_new w1 _, Kd.R_nil _ _ _ _ _, Kd.R_nil _ _ _ _ _, Kd.R_alloc HRT.out _, HB1.out.size⟩⟩
  have HBST : Aside0 (Below w.heap.size w (w1.alloc (.cells #[.slice none 0 0, .slice none 0 0, .slice At ts.length cta, .bool false, .int .i64 0] 88))) := ⟨below_alloc HB1.out _⟩
  rw [← hr] at HSTART
  rw [← hr]
  clear hr HRT
  go_loopw [6] (fun v6 w' => ∃ j i : Nat, i ≤ I.length ∧ v6 = .int .i64 i ∧ Aside0 (i = j * 64) ∧ Aside0 (RkMk w' w.heap.size r I ts j) ∧ Aside0 (Below w.heap.size w w')) (fun v6 _ => I.length - (intOf v6).toNat)
  case atStart => exact ⟨0, 0, Nat.zero_le _, rfl, ⟨rfl⟩, HSTART, HBST⟩
  case round =>
    clear HSTART HBST HB1
    obtain ⟨j, i, hi, rfl, HJ, HM, HB⟩ := hrel
    by_cases hlt : i < I.length
    · have HI64 : Aside0 (i + 64 ≤ I.length) := ⟨by have := HJ.out; have := HG.out.1; omega⟩
      have hi64 := HI64.out
      have hci2 : i + 64 ≤ c := by have := HCI.out; omega
      have hlen : i + 64 - i = 64 := by omega
      have hsec : (I.drop i).take 64 = sec I j := by unfold sec; rw [HJ.out]
      have HSC : Aside0 ((Kd.int .u8).C w (some ⟨g, i, none⟩) 64 (sec I j)) := ⟨by rw [← hsec]; exact C_sub HI.out HI64.out⟩
      have HSL : Aside0 ((sec I j).length = 64) := ⟨HSC.out.1⟩
      have HCP : Aside0 (∀ W, Below w.heap.size w W → Calls Try.prog 20 #[.slice (some ⟨g, i, none⟩) 64 (c - i)] W fun e w' => ∃ v : Value, e = .returned v ∧ (Kd.int .u8).R 5 w' W.heap.size (fun _ => True) v (sec I j) ∧ Below W.heap.size W w') := ⟨fun W hW => by
        have := dk_copyB (some ⟨g, i, none⟩) (c - i) (sec I j) W (by rw [HSL.out]; exact Kd.C_below HSC.out hW) (by rw [HSL.out]; have := HI64.out; have := HCI.out; omega) (by rw [HSL.out]; decide)
        rw [HSL.out] at this
        exact this⟩
      clear hsec
      go_wp2_with fail
      refine (HCP.out _ HB.out).mono ?_
      rintro e' w2 ⟨vb, rfl, hR, hb⟩
      obtain ⟨Ab, cb, rfl, _, _⟩ := Kd.R_reads hR
      have HRB := Aside0.mk hR
      have HB2 := Aside0.mk hb
      obtain ⟨v0, v1, vt, h1, h2, h3, h4, h5⟩ := HM.out
      have HLT0 := Aside0.mk (Kd.R_lt h2)
      have HLT1 := Aside0.mk (Kd.R_lt h3)
      have HSZ := Aside0.mk hb.size
      have h1b := blk_below h1 hb
      have h2b := Kd.R_below h2 hb
      have h3b := Kd.R_below h3 hb
      have H4 := Aside0.mk (Kd.R_below h4 hb)
      have H2 := Aside0.mk h2b
      have H3 := Aside0.mk h3b
      have H1 := Aside0.mk h1b
      have H5 := Aside0.mk h5
      have HBw2 := Aside0.mk (below_step HB.out hb)
      obtain ⟨B0, q0, e0, hq0, _⟩ := Kd.R_reads h2b
      obtain ⟨B1, q1, e1, hq1, _⟩ := Kd.R_reads h3b
      subst e0
      subst e1
      have hy0 : w2.cell? ⟨r, 0, none⟩ = some (.slice B0 (secsL I j).length q0) := (blk_cell h1b 0).trans rfl
      have hy1 : w2.cell? ⟨r, 1, none⟩ = some (.slice B1 (secsL I j).length q1) := (blk_cell h1b 1).trans rfl
      have hf0 := blk_frozen h1b 0
      have HF1 := Aside0.mk (blk_frozen h1b 1)
      clear hR hb h1 h2 h3 h4 h5 h1b h2b h3b hq0 hq1
      have HJB : Aside0 (j ≤ 16384) := ⟨by have := HJ.out; omega⟩
      have hR0 := Kd.R_ne H2.out H1.out (by decide)
      have HRN0 := Aside0.mk hR0
      clear hR0
      go_upto_region 6 with (fail)
      go_wp2_with (first | (at_builtin; refine Kd.R_append (Kd.slice 5 (Kd.int .u8)) (w0 := w) w.heap.size rfl (.tmp 28) (.tmp 30) 63 30 (.slice none 0 0) 24 rfl Try.underlying63 HINF.out rfl (by decide) (by decide) (.slice B0 (secsL I j).length q0) (secsL I j) (sec I j) [.slice Ab (sec I j).length cb] (fun k => True ∧ some k ≠ Value.ownBlock (.slice B1 (secsL I j).length q1)) (fun k => wr.heap.size ≤ k) rfl rfl ?aP ?aK ?aF ?aO ?aB ?aS ?aL ?_; (case aP => exact ⟨_, rfl, Kd.R_lower (Kd.R_mono (Kd.R_bound HRB.out) (fun k hk => hk.2.1)) HB.out.size⟩); (case aK => exact fun k hk => ⟨⟨trivial, fun e => by have := HLT1.out k e.symm; omega⟩, fun e => by have := HLT0.out k e.symm; omega⟩); (case aF => exact fun k hk => ⟨trivial, fun e => by have := HLT1.out k e.symm; have := HSZ.out; omega⟩); (case aO => exact H2.out); (case aB => exact HBw2.out); (case aS => exact HBw2.out.size); (case aL => rw [length_secsL]; have := HJB.out; omega); intro x0 w3 hR hBB hg hat; obtain ⟨Y0, z0, rfl, _, _⟩ := Kd.R_reads hR; have HX0 := Aside0.mk hR; have HBw3 := Aside0.mk hBB; have HV1 := Aside0.mk (Kd.R_after H3.out hg hat); have HV1b := Aside0.mk (Kd.R_grown H3.out hg (fun k hk => hk.2)); have HR3 := Aside0.mk (blk_grown H1.out hg HRN0.out); have HVT3 := Aside0.mk (Kd.R_over' H4.out (Kd.R_typed H2.out) (by decide) hg); have HVB3 := Aside0.mk (Kd.R_over' (Kd.R_mono (Kd.R_bound HRB.out) (ok' := fun k => wr.heap.size ≤ k ∧ k < w2.heap.size) (fun k hk => ⟨hk.2.1, hk.2.2.1⟩)) (Kd.R_typed H2.out) (by decide) hg); have HS3 := Aside0.mk hg.size; have HNY0 : Aside0 (∀ k, wr.heap.size ≤ k ∧ k < w2.heap.size → some k ≠ Value.ownBlock (.slice Y0 (secsL I j ++ [sec I j]).length z0)) := ⟨fun k hk e => by (rcases hat with h | ⟨b, h, hb⟩; (rw [h] at e; have := HLT0.out k e.symm; omega); (rw [h] at e; injection e with e; omega))⟩; clear hR hBB hg hat hy0 hy1 hf0; have hu0 := (blk_cell HR3.out 0).trans rfl; have huf := blk_frozen HR3.out 0; have hu1 : w3.cell? ⟨r, 1, none⟩ = some (.slice B1 (secsL I j).length q1) := (blk_cell HR3.out 1).trans rfl; have huf1 := blk_frozen HR3.out 1) | (at_builtin; refine Kd.R_append (Kd.slice 5 (Kd.int .u8)) (w0 := w) w.heap.size rfl (.tmp 38) (.tmp 40) 63 30 (.slice none 0 0) 24 rfl Try.underlying63 HINF.out rfl (by decide) (by decide) (.slice B1 (secsL I j).length q1) (secsL I j) (sec I j) [.slice Ab (sec I j).length cb] (fun k => True ∧ some k ≠ Value.ownBlock (.slice Y0 (secsL I j ++ [sec I j]).length z0)) (fun k => wr.heap.size ≤ k ∧ k < w2.heap.size) rfl ?bX ?bP ?bK ?bF ?bO ?bB ?bS ?bL ?_; (case bX => exact congrArg (fun q => Value.slice (some ⟨q, 0, none⟩) 1 1) (Deep.nblk_setCell _ _ _).symm); (case bP => exact ⟨_, rfl, Kd.R_lower (Kd.R_set HVB3.out HR3.out (by decide) 0 _) HB.out.size⟩); (case bK => exact fun k hk => ⟨⟨trivial, fun e => HNY0.out k hk e⟩, fun e => by have := HLT1.out k e.symm; have := hk.1; omega⟩); (case bF => exact fun k hk => ⟨trivial, fun e => by rw [Deep.nblk_setCell] at hk; have := Kd.R_lt HX0.out k e.symm; omega⟩); (case bO => exact Kd.R_set HV1.out HR3.out (by decide) 0 _); (case bB => exact HBw3.out.setCell (p := ⟨r, 0, none⟩) H5.out _); (case bS => rw [Deep.nblk_setCell]; exact HBw3.out.size); (case bL => rw [length_secsL]; have := HJB.out; omega); intro x1 w5 hR hBB hg hat; obtain ⟨Y1, z1, rfl, _, _⟩ := Kd.R_reads hR; have HX1 := Aside0.mk hR; have HBw5 := Aside0.mk hBB; have HX0' := Aside0.mk (Kd.R_after (Kd.R_set HX0.out HR3.out (by decide) 0 _) hg hat); have HR5 := Aside0.mk (blk_grown (blk_set HR3.out 0 _) hg (Kd.R_ne HV1.out HR3.out (by decide))); have HVT5 := Aside0.mk (Kd.R_over' (Kd.R_set HVT3.out HR3.out (by decide) 0 _) (Kd.R_typed (Kd.R_set HV1.out HR3.out (by decide) 0 _)) (by decide) hg); clear hR hBB hg hat hu0 huf hu1 huf1; have hk1 : w5.cell? ⟨r, 1, none⟩ = some (.slice B1 (secsL I j).length q1) := (blk_cell HR5.out 1).trans rfl; have hk1f := blk_frozen HR5.out 1))
      go_roundw
      case rel =>
        refine ⟨j + 1, i + 64, by omega, by go_num, ⟨by have := HJ.out; omega⟩, ⟨?_⟩, ⟨HBw5.out.setCell (p := ⟨r, 1, none⟩) H5.out _⟩⟩
        have e := secsL_next I j
        have hl2 : (secsL I j ++ [sec I j]).length = (secsL I j).length + 1 := by rw [List.length_append]; rfl
        rw [← hl2]
        have h0 := Kd.R_set HX0'.out HR5.out (by decide) 1 (.slice Y1 (secsL I j ++ [sec I j]).length z1)
        have h1 := Kd.R_set HX1.out HR5.out (by decide) 1 (.slice Y1 (secsL I j ++ [sec I j]).length z1)
        have h2 := blk_set HR5.out 1 (.slice Y1 (secsL I j ++ [sec I j]).length z1)
        have h3 := Kd.R_set HVT5.out HR5.out (by decide) 1 (.slice Y1 (secsL I j ++ [sec I j]).length z1)
        try rw [← hl2] at h2
        try rw [← hl2] at h0
        try rw [← hl2] at h1
        try rw [← hl2] at h3
        rw [e] at h0 h1 h2 h3 ⊢
        exact ⟨_, _, _, h2, h0, h1, h3, H5.out⟩
      case measure => simp [intOf]; omega
    · have he : j = I.length / 64 := by have := HJ.out; have := HG.out.1; omega
      have HE := Aside0.mk he
      clear he
      go_wp2
      go_ret
      refine ⟨r, rfl, ?_, HB.out⟩
      have := HM.out
      rw [HE.out] at this
      exact this.done HG.out

end Go.Proofs.Ytpkhpfgojhojaaa.PDk

namespace Go.Proofs.Ytpkhpfgojhojaaa.PDk
open Go.RowKit Go.Proofs.YtpkhpfgojhojaaaW.PrintWords Go.Proofs.YtpkhpfgojhojaaaW.PrintLast Go.Proofs.YtpkhpfgojhojaaaW.PrintMore
attribute [local go_sem] max2_int min2_int max_two min_two max_three min_three max_four min_four
set_option linter.unusedVariables false
set_option linter.unusedSimpArgs false
-- IMPORT: Derived.Test.@N@WOwn
-- IMPORT: Derived.Test.@N@DRknew
/-- The program's disk and the page's are one. -/
def Same (y : Dk) (x : Rk) : Prop :=
  y.off = x.off ∧ y.n = x.n ∧ y.tr = trOf x.ts ∧ y.S.length = x.E.length * 64 ∧ y.E.length = x.E.length * 64 ∧ x.S.length = x.E.length ∧ (∀ j : Nat, j < x.E.length → sec y.S j = x.S.getD j [] ∧ sec y.E j = x.E.getD j [])
theorem getD_secsL (I : List Int) (n j : Nat) (h : j < n) : (secsL I n).getD j [] = sec I j := by
  unfold secsL
  rw [List.getD_eq_getElem?_getD, List.getElem?_map, List.getElem?_range h]
  rfl
theorem same_new {I : List Int} {ts : List S45} (h : DkGood I ts) : Same (Dk.new I ts) (Rk.new I ts) := by
  have hl : (Rk.new I ts).E.length = I.length / 64 := length_secsL _ _
  have hS : (Rk.new I ts).S.length = I.length / 64 := length_secsL _ _
  refine ⟨rfl, rfl, rfl, ?_, ?_, by rw [hl, hS], fun j hj => ?_⟩
  · rw [hl]; show I.length = _; have := h.1; omega
  · rw [hl]; show I.length = _; have := h.1; omega
  · rw [hl] at hj
    exact ⟨(getD_secsL I _ j hj).symm, (getD_secsL I _ j hj).symm⟩
theorem same_count {y : Dk} {x : Rk} (h : Same y x) : (y.E.length : Int) / 64 = (x.E.length : Int) := by have := h.2.2.2.2.1; omega
theorem same_read {y : Dk} {x : Rk} (h : Same y x) (i : Int) : y.read i = x.read i := by
  obtain ⟨h1, h2, h3, h4, h5, h6, h7⟩ := h
  have hc := same_count ⟨h1, h2, h3, h4, h5, h6, h7⟩
  unfold Dk.read Rk.read
  rw [hc, h1]
  by_cases hi : 0 ≤ i ∧ i < (x.E.length : Int)
  · rw [if_pos hi, if_pos hi, (h7 i.toNat (by omega)).2]
  · rw [if_neg hi, if_neg hi]
theorem getD_set (l : List (List Int)) (i j : Nat) (b : List Int) (hi : i < l.length) : (l.set i b).getD j [] = if i = j then b else l.getD j [] := by
  rw [List.getD_eq_getElem?_getD, List.getD_eq_getElem?_getD, List.getElem?_set]
  by_cases e : i = j
  · subst e; simp [hi]
  · simp [e]
theorem stroke_on {x : Rk} (h : x.off = true) : x.stroke = ({ x with n := wrap64 (x.n + 1) }, false, true) := by unfold Rk.stroke; rw [if_pos h]
theorem stroke_go {x : Rk} (h : x.off = false) : x.stroke = ({ x with n := wrap64 (x.n + 1), off := trOf x.ts (wrap64 (x.n + 1)) }, true, trOf x.ts (wrap64 (x.n + 1))) := by unfold Rk.stroke; rw [if_neg (by rw [h]; decide)]
theorem same_write {y : Dk} {x : Rk} (h : Same y x) (i : Int) (b : List Int) : (y.write i b).2 = (x.write i b).2 ∧ Same (y.write i b).1 (x.write i b).1 := by
  obtain ⟨h1, h2, h3, h4, h5, h6, h7⟩ := h
  have hc := same_count ⟨h1, h2, h3, h4, h5, h6, h7⟩
  unfold Dk.write Rk.write
  rw [hc]
  by_cases hi : 0 ≤ i ∧ i < (x.E.length : Int) ∧ b.length = 64
  · rw [if_pos hi, if_pos hi]
    by_cases ho : y.off = true
    · rw [if_pos ho, stroke_on (x := x) (by rw [← h1]; exact ho)]
      show (103 : Int) = doneN true ∧ Same { y with n := wrap64 (y.n + 1) } { x with n := wrap64 (x.n + 1) }
      exact ⟨rfl, h1, by show wrap64 _ = wrap64 _; rw [h2], h3, h4, h5, h6, h7⟩
    · have ho' : x.off = false := by rw [← h1]; simpa using ho
      rw [if_neg ho, stroke_go ho']
      show (if y.tr (wrap64 (y.n + 1)) = true then (103 : Int) else 0) = doneN (trOf x.ts (wrap64 (x.n + 1))) ∧ Same { y with n := wrap64 (y.n + 1), off := y.tr (wrap64 (y.n + 1)), E := splice y.E (i.toNat * 64) b } { x with n := wrap64 (x.n + 1), off := trOf x.ts (wrap64 (x.n + 1)), E := x.E.set i.toNat b }
      refine ⟨by rw [h3, h2]; rfl, ?_⟩
      have hl : i.toNat * 64 + b.length ≤ y.E.length := by omega
      refine ⟨by show y.tr _ = trOf x.ts _; rw [h3, h2], by show wrap64 _ = wrap64 _; rw [h2], h3, by show _ = (x.E.set i.toNat b).length * 64; rw [List.length_set]; exact h4, by show (splice y.E _ b).length = (x.E.set i.toNat b).length * 64; rw [List.length_set, length_splice _ _ _ hl]; exact h5, by show _ = (x.E.set i.toNat b).length; rw [List.length_set]; exact h6, fun j hj => ?_⟩
      have hj' : j < x.E.length := by
        have : j < (x.E.set i.toNat b).length := hj
        rwa [List.length_set] at this
      refine ⟨(h7 j hj').1, ?_⟩
      show sec (splice y.E (i.toNat * 64) b) j = (x.E.set i.toNat b).getD j []
      rw [getD_set _ _ _ _ (by omega)]
      by_cases e : i.toNat = j
      · rw [if_pos e, ← e, sec_splice_same _ _ _ (by omega) hi.2.2]
      · rw [if_neg e, sec_splice_other _ _ _ _ (by omega) hi.2.2 e]
        exact (h7 j hj').2
  · rw [if_neg hi, if_neg hi]
    exact ⟨rfl, h1, h2, h3, h4, h5, h6, h7⟩
theorem same_flush {y : Dk} {x : Rk} (h : Same y x) : y.flush.2 = x.flush.2 ∧ Same y.flush.1 x.flush.1 := by
  obtain ⟨h1, h2, h3, h4, h5, h6, h7⟩ := h
  unfold Dk.flush Rk.flush
  by_cases ho : y.off = true
  · rw [if_pos ho, stroke_on (x := x) (by rw [← h1]; exact ho)]
    show (103 : Int) = doneN true ∧ Same { y with n := wrap64 (y.n + 1) } { x with n := wrap64 (x.n + 1) }
    exact ⟨rfl, h1, by show wrap64 _ = wrap64 _; rw [h2], h3, h4, h5, h6, h7⟩
  · have ho' : x.off = false := by rw [← h1]; simpa using ho
    rw [if_neg ho, stroke_go ho']
    by_cases ht : y.tr (wrap64 (y.n + 1)) = true
    · have ht' : trOf x.ts (wrap64 (x.n + 1)) = true := by rw [← h3, ← h2]; exact ht
      rw [if_pos ht, ht']
      show (103 : Int) = doneN true ∧ Same { y with n := wrap64 (y.n + 1), off := true } { x with n := wrap64 (x.n + 1), off := true }
      exact ⟨rfl, rfl, by show wrap64 _ = wrap64 _; rw [h2], h3, h4, h5, h6, h7⟩
    · have ht' : trOf x.ts (wrap64 (x.n + 1)) = false := by rw [← h3, ← h2]; simpa using ht
      rw [if_neg ht, ht']
      show (0 : Int) = doneN false ∧ Same { y with n := wrap64 (y.n + 1), S := y.E } { x with n := wrap64 (x.n + 1), off := false, S := x.E }
      exact ⟨rfl, by show y.off = false; simpa using ho, by show wrap64 _ = wrap64 _; rw [h2], h3, h5, h5, rfl, fun j hj => ⟨(h7 j hj).2, (h7 j hj).2⟩⟩
theorem drop_sec (L : List Int) (i : Nat) : L.drop (i * 64) = sec L i ++ L.drop ((i + 1) * 64) := by
  unfold sec
  rw [show (i + 1) * 64 = i * 64 + 64 by omega, ← List.drop_drop, List.take_append_drop]
theorem crash_step (S E : List Int) (Sx Ex : List (List Int)) (ps : List Int) (cnt : Nat) (hS : S.length = cnt * 64) (hE : E.length = cnt * 64) (hx : ∀ j : Nat, j < cnt → sec S j = Sx.getD j [] ∧ sec E j = Ex.getD j []) :
    ∀ (k i a : Nat) (b : List Int), i + k = cnt → b.length = i * 64 → crashL S E k i (b ++ S.drop (i * 64)) (ps.drop a) = rcrashL Sx Ex ps k i a b
  | 0, i, a, b, hk, hb => by
    rw [crashL, rcrashL, List.drop_eq_nil_of_le (by omega), List.append_nil]
  | k + 1, i, a, b, hk, hb => by
    obtain ⟨e1, e2⟩ := hx i (by omega)
    have l1 := length_sec S i (by omega)
    have l2 := length_sec E i (by omega)
    have hds : b ++ S.drop (i * 64) = (b ++ sec S i) ++ S.drop ((i + 1) * 64) := by rw [drop_sec S i, List.append_assoc]
    rw [crashL, rcrashL, ← e1, ← e2]
    by_cases q1 : sec S i = sec E i
    · rw [if_pos (.inl q1), if_pos q1, hds]
      exact crash_step S E Sx Ex ps cnt hS hE hx k (i + 1) a (b ++ sec S i) (by omega) (by rw [List.length_append]; omega)
    · rw [if_neg q1]
      by_cases q2 : a < ps.length
      · have hd : ps.drop a = ps[a] :: ps.drop (a + 1) := List.drop_eq_getElem_cons q2
        rw [if_neg (by rintro (h | h); exact q1 h; rw [hd] at h; cases h), hd, List.headD_cons, List.tail_cons, rd_get ps a q2]
        by_cases q3 : (ps[a]).tmod 2 = 0
        · rw [if_pos q3, if_neg (by rintro ⟨_, h⟩; exact h q3), hds]
          exact crash_step S E Sx Ex ps cnt hS hE hx k (i + 1) (a + 1) (b ++ sec S i) (by omega) (by rw [List.length_append]; omega)
        · rw [if_neg q3, if_pos ⟨q2, q3⟩]
          have hsp : splice (b ++ S.drop (i * 64)) (i * 64) (sec E i) = (b ++ sec E i) ++ S.drop ((i + 1) * 64) := by
            unfold splice
            rw [List.take_append_of_le_length (by omega), List.take_of_length_le (by omega), List.drop_append, List.drop_eq_nil_of_le (by omega), List.nil_append, List.drop_drop, List.append_assoc, l2]
            congr 3
            omega
          rw [hsp]
          exact crash_step S E Sx Ex ps cnt hS hE hx k (i + 1) (a + 1) (b ++ sec E i) (by omega) (by rw [List.length_append]; omega)
      · have hd : ps.drop a = [] := List.drop_eq_nil_of_le (by omega)
        have hd2 : ps.drop (a + 1) = [] := List.drop_eq_nil_of_le (by omega)
        rw [if_pos (.inr hd), if_neg (by rintro ⟨h, _⟩; exact q2 h), hd, ← hd2, hds]
        exact crash_step S E Sx Ex ps cnt hS hE hx k (i + 1) (a + 1) (b ++ sec S i) (by omega) (by rw [List.length_append]; omega)
theorem same_crash {y : Dk} {x : Rk} (h : Same y x) (ps : List Int) : y.crash ps = x.crash ps := by
  obtain ⟨h1, h2, h3, h4, h5, h6, h7⟩ := h
  have := crash_step y.S y.E x.S x.E ps x.E.length h4 h5 h7 x.E.length 0 0 [] (by omega) rfl
  unfold Dk.crash Rk.crash
  rw [← this, show y.E.length / 64 = x.E.length by omega]
  simp

end Go.Proofs.Ytpkhpfgojhojaaa.PDk

namespace Go.Proofs.Ytpkhpfgojhojaaa.PDk
open Go.RowKit Go.Proofs.YtpkhpfgojhojaaaW.PrintWords Go.Proofs.YtpkhpfgojhojaaaW.PrintLast Go.Proofs.YtpkhpfgojhojaaaW.PrintMore
attribute [local go_sem] max2_int min2_int max_two min_two max_three min_three max_four min_four
set_option linter.unusedVariables false
set_option linter.unusedSimpArgs false
-- IMPORT: Derived.Test.@N@WOwn
-- IMPORT: Derived.Test.@N@DRknew
set_option maxHeartbeats 4000000 in
set_option maxRecDepth 100000 in
/-- A row (or its rest) of the call's own is spoilt. -/
theorem dk_spoil (v : Value) (l : List Int) (w : World) (base : Nat) (ok : Nat → Prop) (h : (Kd.int .u8).Q 5 w base ok v l) (hbs : base ≤ w.heap.size) (hm : l.length < 140737488355327) :
    Calls Try.prog 21 #[v] w fun e w' => e = .returned (.tuple #[]) ∧ Kept w w' ok ∧ Below base w w' := by
  obtain ⟨A, c, rfl, hc⟩ := Kd.Q_slice h
  have HQ0 := Aside0.mk (Kd.Q_mono h (ok' := fun k => ok k ∨ w.heap.size ≤ k) (fun k hk => .inl hk))
  have HOK := Aside0.mk h.1
  have HBS := Aside0.mk hbs
  obtain ⟨n, hn⟩ : ∃ n, n = l.length := ⟨_, rfl⟩
  rw [← hn] at HQ0 HOK hc
  rw [← hn]
  have HN := Aside0.mk hn
  have hnm : n < 140737488355327 := by omega
  have HC := Aside0.mk hc
  clear h hbs hm hn hc
  go_enter Try.func21, Try.ntmps21
  go_wp2
  go_loopw [2] (fun v2 w' => ∃ (i : Nat) (q : List Int), i ≤ n ∧ v2 = .int .i64 i ∧ Aside0 (q.length = n) ∧ Aside0 ((Kd.int .u8).Q 5 w' base (fun k => ok k ∨ w.heap.size ≤ k) (.slice A n c) q) ∧ Aside0 (Kept w w' ok) ∧ Aside0 (Below base w w')) (fun v2 _ => n - (intOf v2).toNat)
  case atStart => exact ⟨0, l, Nat.zero_le _, rfl, ⟨HN.out.symm⟩, HQ0, ⟨Kept.refl _ _⟩, ⟨Below.refl _ _⟩⟩
  case round =>
    clear HQ0
    obtain ⟨i, q, hi, rfl, HL, HQ, HK, HB⟩ := hrel
    by_cases hlt : i < n
    · obtain ⟨g, o, cap, e, hbg, hgl, cells, hgc⟩ := Kd.Q_form HQ.out (by rw [HL.out]; omega)
      rw [HL.out] at e
      injection e with e1 _ e3
      subst e1
      subst e3
      have hcell := Kd.Q_cell (enc := Value.int .u8) (h1 := fun _ => rfl) (0 : Int) HQ.out (i : Int) (by omega) (by omega)
      rw [Int.toNat_natCast] at hcell
      obtain ⟨y, hy⟩ : ∃ y, y = rdOf (0 : Int) q (i : Int) := ⟨_, rfl⟩
      rw [← hy] at hcell
      obtain ⟨hq1, hq2⟩ := hcell
      have HPUT := Aside0.mk (fun x : Int => Kd.Q_putg (enc := Value.int .u8) (h1 := fun _ => rfl) HQ.out (i : Int) (by omega) (by omega) x)
      have HBG := Aside0.mk hbg
      have HOG : Aside0 (ok g) := ⟨HOK.out g rfl⟩
      clear hy hbg hgl hgc
      go_wp2
      go_roundw
      case rel =>
        have := HPUT.out (Go.bits .xor .u8 y 85)
        rw [Int.toNat_natCast] at this
        exact ⟨i + 1, _, by omega, by go_num, ⟨by rw [List.length_set]; exact HL.out⟩, ⟨this.1⟩, ⟨HK.out.setCell (p := ⟨g, o + i, none⟩) (.inl HOG.out) _⟩, ⟨HB.out.setCell (p := ⟨g, o + i, none⟩) HBG.out _⟩⟩
      case measure => simp [intOf]; omega
    · have hge : decide (i < n) = false := decide_eq_false hlt
      go_wp2_with (first | (at_builtin; refine Kd.Q_append (Kd.int .u8) (w0 := w) base rfl (.tmp 17) (.tmp 18) 30 5 (.int .u8 0) 1 rfl Try.underlying30 info5 rfl (by decide) (by decide) (.slice A n c) q 5 [.int .u8 5] (fun k => ok k ∨ w.heap.size ≤ k) (fun _ => False) rfl rfl ?aP (fun _ hk => hk.elim) ?aF ?aO ?aB ?aS ?aL ?_; (case aP => exact rfl); (case aF => exact fun k hk => .inr (Nat.le_trans HB.out.size hk)); (case aO => exact HQ.out); (case aB => exact HB.out); (case aS => exact Nat.le_trans HBS.out HB.out.size); (case aL => rw [HL.out]; omega); intro v1 w1 hQ hBB hg hat; have HB1 := Aside0.mk hBB; have HK1 := Aside0.mk (Kept.of_grown hg HK.out (fun k hk => .inl (HOK.out k hk))); clear hQ hBB hg hat))
      go_end0
      exact ⟨rfl, HK1.out, HB1.out⟩

end Go.Proofs.Ytpkhpfgojhojaaa.PDk

namespace Go.Proofs.Ytpkhpfgojhojaaa.PDk
open Go.RowKit Go.Proofs.YtpkhpfgojhojaaaW.PrintWords Go.Proofs.YtpkhpfgojhojaaaW.PrintLast Go.Proofs.YtpkhpfgojhojaaaW.PrintMore
attribute [local go_sem] max2_int min2_int max_two min_two max_three min_three max_four min_four
set_option linter.unusedVariables false
set_option linter.unusedSimpArgs false
-- IMPORT: Derived.Test.@N@WOwn
-- IMPORT: Derived.Test.@N@DExactpure
-- IMPORT: Derived.Test.@N@DSpoil
/-- Both disks in one memory, apart from each other and from the blocks of P. -/
def Both (w : World) (bd : Nat) (P : Nat → Prop) (d r : Nat) (y : Dk) (x : Rk) : Prop :=
  ∃ okd okr : Nat → Prop, (∀ k, okd k → ¬ okr k) ∧ (∀ k, okd k → k < w.heap.size ∧ ¬ P k) ∧ (∀ k, okr k → k < w.heap.size ∧ ¬ P k) ∧ DkAt w bd okd d y ∧ RkAt w bd okr r x
section
variable {w w' : World} {bd d r : Nat} {P P' : Nat → Prop} {y : Dk} {x : Rk}
theorem Both.start {bd' bw : Nat} (h1 : DkAt w bd' (fun k => k < bw) d y) (h2 : RkAt w bw (fun _ => True) r x) (hb : bd ≤ bd') (hbw : bd ≤ bw) : Both w bd (fun _ => False) d r y x := by
  refine ⟨fun k => k < bw ∧ k < w.heap.size, fun k => bw ≤ k ∧ k < w.heap.size, fun k h1 h2 => ?_, fun k h => ⟨h.2, id⟩, fun k h => ⟨h.2, id⟩, (h1.bound.mono (fun k hk => ⟨hk.1, hk.2.2⟩)).lower hb, ?_⟩
  · have := h1.1; have := h2.1; omega
  · obtain ⟨gs, cs, ge, ce, vt, q1, q2, q3, q4, q5, q6, q7⟩ := h2.bound
    exact ⟨gs, cs, ge, ce, vt, q1, Kd.R_lower (Kd.R_mono q2 (fun k hk => ⟨⟨hk.1.2.1, hk.1.2.2⟩, hk.2⟩)) hbw, Kd.R_lower (Kd.R_mono q3 (fun k hk => ⟨⟨hk.1.2.1, hk.1.2.2⟩, hk.2⟩)) hbw, Kd.R_lower (Kd.R_mono q4 (fun k hk => ⟨hk.2.1, hk.2.2⟩)) hbw, by omega, ⟨q5, blk_lt q1⟩, q7⟩
/-- What is new since may be set apart. -/
theorem Both.below (h : Both w bd P d r y x) (hb : Below w.heap.size w w') (hP : ∀ k, P' k → w.heap.size ≤ k) : Both w' bd P' d r y x := by
  obtain ⟨okd, okr, h1, h2, h3, h4, h5⟩ := h
  exact ⟨okd, okr, h1, fun k hk => ⟨Nat.lt_of_lt_of_le (h2 k hk).1 hb.size, fun hp => by have := (h2 k hk).1; have := hP k hp; omega⟩, fun k hk => ⟨Nat.lt_of_lt_of_le (h3 k hk).1 hb.size, fun hp => by have := (h3 k hk).1; have := hP k hp; omega⟩, h4.below hb, h5.below hb⟩
theorem Both.below' (h : Both w bd P d r y x) (hb : Below w.heap.size w w') : Both w' bd P d r y x := by
  obtain ⟨okd, okr, h1, h2, h3, h4, h5⟩ := h
  exact ⟨okd, okr, h1, fun k hk => ⟨Nat.lt_of_lt_of_le (h2 k hk).1 hb.size, (h2 k hk).2⟩, fun k hk => ⟨Nat.lt_of_lt_of_le (h3 k hk).1 hb.size, (h3 k hk).2⟩, h4.below hb, h5.below hb⟩
/-- Blocks set apart are written. -/
theorem Both.kept {S : Nat → Prop} (h : Both w bd P d r y x) (hk : Kept w w' S) (hS : ∀ k, S k → P k) : Both w' bd P d r y x := by
  obtain ⟨okd, okr, h1, h2, h3, h4, h5⟩ := h
  exact ⟨okd, okr, h1, fun k hk' => ⟨Nat.lt_of_lt_of_le (h2 k hk').1 hk.1, (h2 k hk').2⟩, fun k hk' => ⟨Nat.lt_of_lt_of_le (h3 k hk').1 hk.1, (h3 k hk').2⟩, h4.kept hk (fun k hk' hs => (h2 k hk').2 (hS k hs)), h5.kept hk (fun k hk' hs => (h3 k hk').2 (hS k hs))⟩
theorem Both.dk (h : Both w bd P d r y x) : ∃ ok, DkAt w bd ok d y := by obtain ⟨okd, okr, h1, h2, h3, h4, h5⟩ := h; exact ⟨_, h4⟩
theorem Both.rk (h : Both w bd P d r y x) : ∃ ok, RkAt w bd ok r x := by obtain ⟨okd, okr, h1, h2, h3, h4, h5⟩ := h; exact ⟨_, h5⟩
theorem both_Flush (h : Both w bd P d r y x) (hbd : bd ≤ w.heap.size) (hP : ∀ k, P k → k < w.heap.size) :
    Calls Try.prog 12 #[.pointer (some ⟨d, 0, none⟩)] w fun e w' => e = .returned (.int .i64 y.flush.2) ∧ Both w' bd P d r y.flush.1 x ∧ Kept w w' (fun k => ¬ P k) ∧ Below bd w w' := by
  obtain ⟨okd, okr, h1, h2, h3, h4, h5⟩ := h
  refine (dk_Flush d w bd okd y h4 hbd).mono ?_
  rintro e w' ⟨he, hd, hk, hb⟩
  refine ⟨he, ⟨fun k => (okd k ∨ w.heap.size ≤ k) ∧ k < w'.heap.size, okr, fun k hk' hr => ?_, fun k hk' => ⟨hk'.2, fun hp => ?_⟩, fun k hk' => ⟨Nat.lt_of_lt_of_le (h3 k hk').1 hk.1, (h3 k hk').2⟩, hd.bound.mono (fun k hk => ⟨hk.1, hk.2.2⟩), h5.kept hk (fun k hr hd => h1 k hd hr)⟩, hk.mono (fun k hk => (h2 k hk).2), hb⟩
  · rcases hk'.1 with h | h
    · exact h1 k h hr
    · have := (h3 k hr).1; omega
  · rcases hk'.1 with h | h
    · exact (h2 k h).2 hp
    · have := hP k hp; omega
theorem both_Write (h : Both w bd P d r y x) (hbd : bd ≤ w.heap.size) (hP : ∀ k, P k → k < w.heap.size) (i : Int) (B : Option Addr) (n c : Nat) (b : List Int) (hn : n = b.length) (hC : (Kd.int .u8).C w B n b) (hB : ∀ ad, B = some ad → P ad.block) :
    Calls Try.prog 15 #[.pointer (some ⟨d, 0, none⟩), .int .i64 i, .slice B n c] w fun e w' => e = .returned (.int .i64 (y.write i b).2) ∧ Both w' bd P d r (y.write i b).1 x ∧ Kept w w' (fun k => ¬ P k) ∧ Below bd w w' := by
  subst hn
  obtain ⟨okd, okr, h1, h2, h3, h4, h5⟩ := h
  refine (dk_Write d i B c b w bd okd y h4 hbd hC (fun ad e hk => (h2 _ hk).2 (hB ad e))).mono ?_
  rintro e w' ⟨he, hd, hk, hb⟩
  exact ⟨he, ⟨okd, okr, h1, fun k hk' => ⟨Nat.lt_of_lt_of_le (h2 k hk').1 hk.1, (h2 k hk').2⟩, fun k hk' => ⟨Nat.lt_of_lt_of_le (h3 k hk').1 hk.1, (h3 k hk').2⟩, hd, h5.kept hk (fun k hr hd => h1 k hd hr)⟩, hk.mono (fun k hk => (h2 k hk).2), hb⟩
theorem both_rFlush (h : Both w bd P d r y x) (hP : ∀ k, P k → k < w.heap.size) :
    Calls Try.prog 24 #[.pointer (some ⟨r, 0, none⟩)] w fun e w' => e = .returned (.int .i64 x.flush.2) ∧ Both w' bd P d r y x.flush.1 ∧ Kept w w' (fun k => ¬ P k) ∧ Below bd w w' := by
  obtain ⟨okd, okr, h1, h2, h3, h4, h5⟩ := h
  refine (rk_Flush r w bd okr x h5).mono ?_
  rintro e w' ⟨he, hd, hk, hb⟩
  exact ⟨he, ⟨okd, okr, h1, fun k hk' => ⟨Nat.lt_of_lt_of_le (h2 k hk').1 hk.1, (h2 k hk').2⟩, fun k hk' => ⟨Nat.lt_of_lt_of_le (h3 k hk').1 hk.1, (h3 k hk').2⟩, h4.kept hk (fun k hd hr => h1 k hd hr), hd⟩, hk.mono (fun k hk => (h3 k hk).2), hb⟩
/-- b: made since Both was told. -/
theorem both_rWrite {w0 : World} (h : Both w0 bd P d r y x) (hb0 : Below w0.heap.size w0 w) (hbd : bd ≤ w0.heap.size) (hP : ∀ k, P k → k < w0.heap.size) (i : Int) (n c : Nat) (B : Option Addr) (b : List Int) (hR : (Kd.int .u8).R 5 w w0.heap.size (fun _ => True) (.slice B n c) b) (hm : b.length < 140737488355328) :
    Calls Try.prog 27 #[.pointer (some ⟨r, 0, none⟩), .int .i64 i, .slice B n c] w fun e w' => e = .returned (.int .i64 (x.write i b).2) ∧ Both w' bd P d r y (x.write i b).1 ∧ Kept w0 w' (fun k => ¬ P k) ∧ Below bd w0 w' := by
  obtain ⟨okd, okr, h1, h2, h3, h4, h5⟩ := h
  obtain ⟨hn, hc, hC⟩ := Kd.R_reads' hR
  subst hn
  refine (rk_Write r i B c b w bd okr x (h5.below hb0) (Nat.le_trans hbd hb0.size) hC hc hm ?_).mono ?_
  · rintro ad rfl hk
    have := Kd.R_base hR ad.block rfl
    have := (h3 _ hk).1
    omega
  · rintro e w' ⟨he, hd, hk, hb⟩
    refine ⟨he, ⟨okd, fun k => (okr k ∨ w.heap.size ≤ k) ∧ k < w'.heap.size, fun k hd hr => ?_, fun k hk' => ⟨Nat.lt_of_lt_of_le (h2 k hk').1 (Nat.le_trans hb0.size hk.1), (h2 k hk').2⟩, fun k hk' => ⟨hk'.2, fun hp => ?_⟩, (h4.below hb0).kept hk (fun k hd hr => h1 k hd hr), hd.bound.mono (fun k hk => ⟨hk.1, hk.2.2⟩)⟩, (Kept.of_below hb0 _).then_ (hk.mono (S' := fun k => okr k) (fun k hk => hk)) (fun k hk => .inl (h3 k hk).2), (hb0.mono hbd).trans hb⟩
    · rcases hr.1 with h | h
      · exact h1 k hd h
      · have := (h2 k hd).1; have := hb0.size; omega
    · rcases hk'.1 with h | h
      · exact (h3 k h).2 hp
      · have := hP k hp; have := hb0.size; omega
end

end Go.Proofs.Ytpkhpfgojhojaaa.PDk

namespace Go.Proofs.Ytpkhpfgojhojaaa.PDk
open Go.RowKit Go.Proofs.YtpkhpfgojhojaaaW.PrintWords Go.Proofs.YtpkhpfgojhojaaaW.PrintLast Go.Proofs.YtpkhpfgojhojaaaW.PrintMore
attribute [local go_sem] max2_int min2_int max_two min_two max_three min_three max_four min_four
set_option linter.unusedVariables false
set_option linter.unusedSimpArgs false
-- FUNCTION: gangway/gangwaylaw11.DiskOff
-- IMPORT: Derived.Test.@N@WOwn
-- IMPORT: Derived.Test.@N@DWakes
def ox0 : Dk := Dk.new (List.replicate 256 0) [⟨3⟩]
def ox1 : Dk := (ox0.write 0 (secOf 1)).1
def ox2 : Dk := ox1.flush.1
def ox3 : Dk := (ox2.write 1 (secOf 2)).1
def offAt (m : Int) : Dk := { S := ox3.S, E := ox3.E, tr := ox3.tr, n := m, off := true }
theorem ox0_w : (ox0.write 0 (secOf 1)).2 = 0 := by kernel_rfl
theorem ox1_f : ox1.flush.2 = 0 := by kernel_rfl
theorem ox2_w : (ox2.write 1 (secOf 2)).2 = 103 := by kernel_rfl
theorem ox3_at : ox3 = offAt 3 := by kernel_rfl
theorem off_write (m : Int) : (offAt m).write 2 (secOf 9) = (offAt (wrap64 (m + 1)), 103) := by kernel_rfl
theorem off_writeN (m : Int) : (offAt m).write (-1) (secOf 9) = (offAt m, 100) := by kernel_rfl
theorem off_flush (m : Int) : (offAt m).flush = (offAt (wrap64 (m + 1)), 103) := by kernel_rfl
theorem off_read (m : Int) : (offAt m).read 0 = ([], 103) := by kernel_rfl
def crA : List Int := ox3.crash []
def crB : List Int := ox3.crash [1, 1, 1]
theorem off_crA (m : Int) : (offAt m).crash [] = crA := by kernel_rfl
theorem off_crB (m : Int) : (offAt m).crash [1, 1, 1] = crB := by kernel_rfl
theorem crA_len : crA.length = 256 := by kernel_rfl
theorem crB_len : crB.length = 256 := by kernel_rfl
theorem crA_0 : (crA.drop 0).take 64 = secOf 1 := by kernel_rfl
theorem crA_1 : (crA.drop 64).take 64 = List.replicate 64 0 := by kernel_rfl
theorem crB_1 : (crB.drop 64).take 64 = secOf 2 := by kernel_rfl
theorem crB_2 : (crB.drop 128).take 64 = List.replicate 64 0 := by kernel_rfl
theorem blk_low {w1 w2 : World} {bd g : Nat} {o : Obj} (h : w1.heap[g]? = some o) (hb : Below bd w1 w2) (hg : g < bd) : w2.heap[g]? = some o := (hb.block g hg).trans h
theorem nums_C {W : World} {g : Nat} {k : IntKind} {t : TypeId} {xs : List Int} (h : W.heap[g]? = some (.cells (nums k xs).toArray t (0, 0))) (hm : xs.length ≤ 9223372036854775807) : (Kd.int k).C W (some ⟨g, 0, none⟩) xs.length xs := (Kd.R_reads' (R_of_blk (base := 0) h (Nat.zero_le _) hm)).2.2
theorem trouble_C {W : World} {g : Nat} {q : Int} (h : W.heap[g]? = some (.cells #[.int .i64 q] 45 (0, 0))) : Kd.C k45 W (some ⟨g, 0, none⟩) 1 [⟨q⟩] := by
  refine ⟨rfl, by decide, fun _ => ⟨_, rfl, fun j p hj => ?_⟩⟩
  have hj0 : j = 0 := by
    have := (List.getElem?_eq_some_iff.1 hj).1
    simp at this; exact this
  subst hj0
  cases hj
  refine ⟨[.int .i64 q], rfl, rfl, fun i u hu => ?_⟩
  have hi0 : i = 0 := by
    have := (List.getElem?_eq_some_iff.1 hu).1
    simp at this; exact this
  subst hi0
  cases hu
  exact (blk_cell h 0).trans rfl
theorem eq_part {w13 W : World} {g c off n m c2 : Nat} {L s : List Int} {A2 : Option Addr} (hC : (Kd.int .u8).C w13 (some ⟨g, 0, none⟩) n L) (hn : n ≤ c) (ho : off + 64 ≤ n) (hs : (L.drop off).take 64 = s) (hC2 : (Kd.int .u8).C W A2 m s) (hm : m ≤ c2) (hb : Below w13.heap.size w13 W) {q : Nat} (hq : q = c - off) :
    Calls Try.prog 19 #[.slice (some ⟨g, off, none⟩) 64 q, .slice A2 m c2] W fun e w' => e = .returned (.bool true) ∧ Drawn0 W w' := by
  subst hq
  have h1 := Kd.C_below (C_sub hC ho) hb
  rw [hs] at h1
  have l1 : s.length = 64 := h1.1
  have l2 : s.length = m := hC2.1
  have := dk_eqB (some ⟨g, off, none⟩) (c - off) s A2 c2 s W (by rw [l1]; exact h1) (by rw [l1]; omega) (by rw [l2]; exact hC2) (by rw [l2]; exact hm) (by rw [l1]; decide)
  rw [decide_eq_true rfl] at this
  rw [l1] at this
  have e : m = 64 := by omega
  subst e
  exact this
set_option maxHeartbeats 16000000 in
set_option maxRecDepth 100000 in
theorem gangwaylaw11_DiskOff.walk (a0 : Int) (A1 A2 : Option Addr) (n1 n2 c1 c2 : Nat) (hn2 : n2 ≤ 9223372036854775807) (w : World) :
    Calls Try.prog 4 #[.agg #[.int .i64 a0, .slice A1 n1 c1, .slice A2 n2 c2]] w fun e w' => e = .returned (.bool true) ∧ Below w.heap.size w w' := by
  obtain ⟨z, hz, hmk, hR0⟩ := mk_zero 256 256 rfl (by decide)
  obtain ⟨z6, hz6, hmk6, hR6⟩ := mk_zero 64 64 rfl (by decide)
  have HR6 := Aside0.mk hR6
  have HZ6 := Aside0.mk hz6
  have HZ := Aside0.mk hz
  have hus := Try.underlying25
  have hut := Try.underlying45
  have HBX : Aside0 (Below w.heap.size w ((w.alloc (.cells #[.int .i64 a0, .slice A1 n1 c1, .slice A2 n2 c2] 25)).alloc (.cells (nums .u8 z).toArray 5))) := ⟨below_alloc (below_alloc (Below.refl _ _) _) _⟩
  have HRZ : Aside0 ((Kd.int .u8).C (((w.alloc (.cells #[.int .i64 a0, .slice A1 n1 c1, .slice A2 n2 c2] 25)).alloc (.cells (nums .u8 z).toArray 5)).alloc (.cells #[.int .i64 3] 45)) (some ⟨w.heap.size + 1, 0, none⟩) 256 z) := ⟨by
    have := Kd.C_alloc (R_C (hR0 (w.alloc (.cells #[.int .i64 a0, .slice A1 n1 c1, .slice A2 n2 c2] 25)))).2 (.cells #[.int .i64 3] 45)
    rw [World.size_alloc] at this
    exact this⟩
  have HRT : Aside0 (Kd.C k45 (((w.alloc (.cells #[.int .i64 a0, .slice A1 n1 c1, .slice A2 n2 c2] 25)).alloc (.cells (nums .u8 z).toArray 5)).alloc (.cells #[.int .i64 3] 45)) (some ⟨w.heap.size + 1 + 1, 0, none⟩) 1 [⟨3⟩]) := ⟨by
    have := trouble_C (blk_new ((w.alloc (.cells #[.int .i64 a0, .slice A1 n1 c1, .slice A2 n2 c2] 25)).alloc (.cells (nums .u8 z).toArray 5)) (.cells #[.int .i64 3] 45))
    rw [World.size_alloc, World.size_alloc] at this
    exact this⟩
  obtain ⟨bd, hbd⟩ : ∃ bd, bd = (((w.alloc (.cells #[.int .i64 a0, .slice A1 n1 c1, .slice A2 n2 c2] 25)).alloc (.cells (nums .u8 z).toArray 5)).alloc (.cells #[.int .i64 3] 45)).heap.size := ⟨_, rfl⟩
  have HBD := Aside0.mk hbd
  have HBS0 := Aside0.mk (blk_alloc (blk_alloc (blk_new w (.cells #[.int .i64 a0, .slice A1 n1 c1, .slice A2 n2 c2] 25)) (.cells (nums .u8 z).toArray 5)) (.cells #[.int .i64 3] 45))
  have HLT : Aside0 (w.heap.size < bd) := ⟨by rw [hbd, World.size_alloc, World.size_alloc, World.size_alloc]; omega⟩
  clear hz hR0 hbd hz6 hR6
  go_enter Try.func4, Try.ntmps4
  go_wp2_with fail
  refine (dk_New_ok (some ⟨w.heap.size + 1, 0, none⟩) 256 256 z (some ⟨w.heap.size + 1 + 1, 0, none⟩) 1 1 [⟨3⟩] _ HRZ.out (Nat.le_refl _) HRT.out (fun t h => by rw [List.mem_singleton.1 h]; rfl) (by decide) (fun t h => by rw [List.mem_singleton.1 h]; decide)).mono ?_
  rintro e' w1 ⟨d, rfl, hd, hb⟩
  rw [← HBD.out, HZ.out, show Dk.new (List.replicate 256 0) [⟨3⟩] = ox0 from rfl] at hd
  have HD0 := Aside0.mk hd
  have HDB0 : Aside0 (bd ≤ w1.heap.size) := ⟨by rw [HBD.out]; exact hb.size⟩
  have HBS1 := Aside0.mk (blk_below HBS0.out hb)
  have HB1 := Aside0.mk (below_step (below_alloc HBX.out _) hb)
  clear hd hb HBS0 HBX HRZ HRT
  go_wp2_with (first | (go_at_call 10; refine (dk_num _ _).mono ?_; rintro e' w' ⟨rfl, rfl⟩))
  refine (dk_sector 1 _).mono ?_
  rintro e' ws1 ⟨vs1, rfl, hR, hb⟩
  obtain ⟨As1, cs1, rfl, _, _⟩ := Kd.R_reads hR
  have HW1 := Aside0.mk (dk_wsec HD0.out HDB0.out hb hR)
  clear hR hb
  go_wp2_with fail
  refine (HW1.out 0).mono ?_
  rintro e' w2 ⟨rfl, hd, hk, hb⟩
  rw [ox0_w]
  have HD1 := Aside0.mk (show DkAt w2 bd _ d ox1 from hd)
  have HDB1 : Aside0 (bd ≤ w2.heap.size) := ⟨Nat.le_trans HDB0.out hk.1⟩
  have HBS2 := Aside0.mk (blk_low HBS1.out hb HLT.out)
  have HB2 := Aside0.mk (HB1.out.trans (hb.mono (Nat.le_of_lt HLT.out)))
  clear hd hk hb HW1 HBS1 HB1 HD0
  go_wp2_with (first | (go_at_call 10; refine (dk_num _ _).mono ?_; rintro e' w' ⟨rfl, rfl⟩))
  refine (dk_Flush d _ _ _ _ HD1.out HDB1.out).mono ?_
  rintro e' w3 ⟨rfl, hd, hk, hb⟩
  rw [ox1_f]
  have HD2 := Aside0.mk (show DkAt w3 bd _ d ox2 from hd.mono (fun _ _ => trivial))
  have HDB2 : Aside0 (bd ≤ w3.heap.size) := ⟨Nat.le_trans HDB1.out hk.1⟩
  have HBS3 := Aside0.mk (blk_low HBS2.out hb HLT.out)
  have HB3 := Aside0.mk (HB2.out.trans (hb.mono (Nat.le_of_lt HLT.out)))
  clear hd hk hb HBS2 HB2 HD1
  go_wp2_with (first | (go_at_call 10; refine (dk_num _ _).mono ?_; rintro e' w' ⟨rfl, rfl⟩))
  refine (dk_sector 2 _).mono ?_
  rintro e' ws2 ⟨vs2, rfl, hR, hb⟩
  obtain ⟨As2, cs2, rfl, _, _⟩ := Kd.R_reads hR
  have HW2 := Aside0.mk (dk_wsec HD2.out HDB2.out hb hR)
  clear hR hb
  go_wp2_with fail
  refine (HW2.out 1).mono ?_
  rintro e' w4 ⟨rfl, hd, hk, hb⟩
  rw [ox2_w]
  have HD3 := Aside0.mk (show DkAt w4 bd (fun _ => True) d (offAt 3) by rw [← ox3_at]; exact hd)
  have HDB3 : Aside0 (bd ≤ w4.heap.size) := ⟨Nat.le_trans HDB2.out hk.1⟩
  have HBS4 := Aside0.mk (blk_low HBS3.out hb HLT.out)
  have HB4 := Aside0.mk (HB3.out.trans (hb.mono (Nat.le_of_lt HLT.out)))
  clear hd hk hb HW2 HBS3 HB3 HD2
  go_wp2_with (first | (go_at_call 10; refine (dk_num _ _).mono ?_; rintro e' w' ⟨rfl, rfl⟩))
  go_loopw [5] (fun v5 w' => ∃ (n : Nat) (m : Int), n ≤ 40 ∧ n ≤ n2 ∧ v5 = .int .i64 n ∧ Aside0 (w'.heap[w.heap.size]? = some (.cells #[.int .i64 a0, .slice A1 n1 c1, .slice A2 n2 c2] 25 (0, 0))) ∧ Aside0 (DkAt w' bd (fun _ => True) d (offAt m)) ∧ Aside0 (bd ≤ w'.heap.size) ∧ Aside0 (Below w.heap.size w w')) (fun v5 _ => 40 - (intOf v5).toNat)
  case atStart => exact ⟨0, 3, Nat.zero_le _, Nat.zero_le _, rfl, HBS4, HD3, HDB3, HB4⟩
  case round =>
    clear HBS4 HD3 HDB3 HB4
    obtain ⟨n, m, h40, hn, rfl, HBS, HD, HDB, HB⟩ := hrel
    have hs2 := (blk_cell HBS.out 2).trans rfl
    by_cases hlt : n < n2
    · by_cases h4 : n < 40
      · have u1 := True.intro
        go_wp2_with (first | (go_at_call 10; refine (dk_num _ _).mono ?_; rintro e' w' ⟨rfl, rfl⟩))
        refine (dk_Read d 0 _ _ _ _ HD.out).mono ?_
        rintro e' w5 ⟨v, rfl, hR, hb⟩
        rw [off_read]
        have HD5 := Aside0.mk (HD.out.below hb)
        have HDB5 : Aside0 (bd ≤ w5.heap.size) := ⟨Nat.le_trans HDB.out hb.size⟩
        have HBS5 := Aside0.mk (blk_below HBS.out hb)
        have HB5 := Aside0.mk (below_step HB.out hb)
        clear hR hb hs2
        go_wp2_with (first | (go_at_call 10; refine (dk_num _ _).mono ?_; rintro e' w' ⟨rfl, rfl⟩))
        refine (dk_sector 9 _).mono ?_
        rintro e' ws3 ⟨vs3, rfl, hR, hb⟩
        obtain ⟨As3, cs3, rfl, _, _⟩ := Kd.R_reads hR
        have HW3 := Aside0.mk (dk_wsec HD5.out HDB5.out hb hR)
        clear hR hb
        go_wp2_with fail
        refine (HW3.out 2).mono ?_
        rintro e' w6 ⟨rfl, hd, hk, hb⟩
        rw [off_write] at hd
        rw [off_write]
        have HD6 := Aside0.mk hd
        have HDB6 : Aside0 (bd ≤ w6.heap.size) := ⟨Nat.le_trans HDB5.out hk.1⟩
        have HBS6 := Aside0.mk (blk_low HBS5.out hb HLT.out)
        have HB6 := Aside0.mk (HB5.out.trans (hb.mono (Nat.le_of_lt HLT.out)))
        clear hd hk hb HW3
        go_wp2_with (first | (go_at_call 10; refine (dk_num _ _).mono ?_; rintro e' w' ⟨rfl, rfl⟩))
        refine (dk_Flush d _ _ _ _ HD6.out HDB6.out).mono ?_
        rintro e' w7 ⟨rfl, hd, hk, hb⟩
        rw [off_flush] at hd
        rw [off_flush]
        have HD7 := Aside0.mk (hd.mono (ok' := fun _ => True) (fun _ _ => trivial))
        have HDB7 : Aside0 (bd ≤ w7.heap.size) := ⟨Nat.le_trans HDB6.out hk.1⟩
        have HBS7 := Aside0.mk (blk_low HBS6.out hb HLT.out)
        have HB7 := Aside0.mk (HB6.out.trans (hb.mono (Nat.le_of_lt HLT.out)))
        clear hd hk hb
        go_wp2_with (first | (go_at_call 10; refine (dk_num _ _).mono ?_; rintro e' w' ⟨rfl, rfl⟩))
        refine (dk_sector 9 _).mono ?_
        rintro e' ws4 ⟨vs4, rfl, hR, hb⟩
        obtain ⟨As4, cs4, rfl, _, _⟩ := Kd.R_reads hR
        have HW4 := Aside0.mk (dk_wsec HD7.out HDB7.out hb hR)
        clear hR hb
        go_wp2_with fail
        refine (HW4.out (-1)).mono ?_
        rintro e' w8 ⟨rfl, hd, hk, hb⟩
        rw [off_writeN] at hd
        rw [off_writeN]
        have HD8 := Aside0.mk hd
        have HDB8 : Aside0 (bd ≤ w8.heap.size) := ⟨Nat.le_trans HDB7.out hk.1⟩
        have HBS8 := Aside0.mk (blk_low HBS7.out hb HLT.out)
        have HB8 := Aside0.mk (HB7.out.trans (hb.mono (Nat.le_of_lt HLT.out)))
        clear hd hk hb HW4
        go_wp2_with (first | (go_at_call 10; refine (dk_num _ _).mono ?_; rintro e' w' ⟨rfl, rfl⟩))
        go_roundw
        case rel => exact ⟨n + 1, _, by omega, by omega, by go_num, HBS8, HD8, HDB8, HB8⟩
        case measure => simp [intOf]; omega
      · have hge : decide (n < 40) = false := decide_eq_false h4
        have hcap0 := True.intro
        go_wp2_with fail
        refine (dk_Crash d none 0 [] _ _ _ _ HD.out (Kd.C_nil _ _) (Nat.le_refl _)).mono ?_
        rintro e' w10 ⟨va, rfl, hR, hb⟩
        rw [off_crA] at hR
        obtain ⟨ga, ca, rfl, _⟩ := Kd.R_form hR (by rw [crA_len]; decide)
        rw [crA_len] at hR
        rw [crA_len]
        have HA := Aside0.mk (R_C hR)
        have HD10 := Aside0.mk (HD.out.below hb)
        have HB10 := Aside0.mk (below_step HB.out hb)
        clear hR hb
        go_wp2_with fail
        refine (dk_Crash d (some ⟨w10.heap.size, 0, none⟩) 3 [1, 1, 1] _ _ _ _ (HD10.out.below (below_alloc (Below.refl _ _) _)) (nums_C (xs := [1, 1, 1]) (blk_new w10 (.cells #[.int .i64 1, .int .i64 1, .int .i64 1] 3)) (by decide)) (Nat.le_refl _)).mono ?_
        rintro e' w12 ⟨vb, rfl, hR, hb⟩
        rw [off_crB] at hR
        obtain ⟨gb, cb, rfl, _⟩ := Kd.R_form hR (by rw [crB_len]; decide)
        rw [crB_len] at hR
        rw [crB_len]
        have HX := Aside0.mk (R_C hR)
        have HA12 : Aside0 (256 ≤ ca ∧ (Kd.int .u8).C w12 (some ⟨ga, 0, none⟩) 256 crA) := ⟨HA.out.1, Kd.C_below (Kd.C_alloc HA.out.2 _) hb⟩
        have HB12 := Aside0.mk (below_step (below_alloc HB10.out _) hb)
        have hca := HA.out.1
        have hcb := HX.out.1
        clear hR hb HA
        have hi1 : (64 : Int) ≤ (ca : Int) := by omega
        have hi2 : (128 : Int) ≤ (ca : Int) := by omega
        have hi3 : (64 : Int) ≤ (cb : Int) := by omega
        have hi4 : (128 : Int) ≤ (cb : Int) := by omega
        have hi5 : (192 : Int) ≤ (cb : Int) := by omega
        have hj1 : ¬ (ca = 64) := by omega
        have hj2 : ¬ (cb = 64) := by omega
        have hj3 : ¬ (cb = 128) := by omega
        have hj4 : ¬ (ca = 0) := by omega
        have hj5 : ¬ (cb = 0) := by omega
        go_upto_region 17 with (fail)
        have HA13 : Aside0 (256 ≤ ca ∧ (Kd.int .u8).C (w12.alloc (.cells (nums .u8 z6).toArray 5)) (some ⟨ga, 0, none⟩) 256 crA) := ⟨HA12.out.1, Kd.C_alloc HA12.out.2 _⟩
        have HX13 : Aside0 (256 ≤ cb ∧ (Kd.int .u8).C (w12.alloc (.cells (nums .u8 z6).toArray 5)) (some ⟨gb, 0, none⟩) 256 crB) := ⟨HX.out.1, Kd.C_alloc HX.out.2 _⟩
        have HZ13 : Aside0 ((Kd.int .u8).C (w12.alloc (.cells (nums .u8 z6).toArray 5)) (some ⟨w12.heap.size, 0, none⟩) 64 (List.replicate 64 0)) := ⟨by rw [← HZ6.out]; exact (R_C (HR6.out w12)).2⟩
        have HB20 : Aside0 (Below (w12.alloc (.cells (nums .u8 z6).toArray 5)).heap.size (w12.alloc (.cells (nums .u8 z6).toArray 5)) (w12.alloc (.cells (nums .u8 z6).toArray 5)).drew) := ⟨below_drew (Below.refl _ _)⟩
        refine start_ (n := 26) (S := fun w' => True) (ds := []) #[false, false, false, false, false, false, false, false, false, false, false, false, false, false, false, false, false, false, false, false, false, false, false, false, false, false] (by kernel_rfl) rfl rfl trivial (fun hHeld => ?_)
        refine pure_ (i := 0) (N := some 96) (v := ?_) (a' := ?_) #[true, false, false, false, false, false, false, false, false, false, false, false, false, false, false, false, false, false, false, false, false, false, false, false, false, false] rfl rfl (by kernel_rfl) (fun _ _ _ h => h) (Or.inl ⟨by rfl, ?_⟩) ?_ ?_
        rotate_left
        · intro w'
          go_simp
          with_reducible rfl
        rotate_left
        · simp only [Act.put, List.setIfInBounds_toArray, List.set_cons_zero, List.set_cons_succ, i64_w, i32_w]
          rfl
        refine pure_ (i := 1) (N := some 97) (v := ?_) (a' := ?_) #[true, true, false, false, false, false, false, false, false, false, false, false, false, false, false, false, false, false, false, false, false, false, false, false, false, false] rfl rfl (by kernel_rfl) (fun _ _ _ h => h) (Or.inl ⟨by rfl, ?_⟩) ?_ ?_
        rotate_left
        · intro w'
          go_simp
          with_reducible rfl
        rotate_left
        · simp only [Act.put, List.setIfInBounds_toArray, List.set_cons_zero, List.set_cons_succ, i64_w, i32_w]
          rfl
        refine one_ (i := 2) (N := some 98) #[true, true, true, false, false, false, false, false, false, false, false, false, false, false, false, false, false, false, false, false, false, false, false, false, false, false] rfl rfl (by kernel_rfl) (by decide) (fun K hK => ?_)
        refine goes_ Try.func16 (by kernel_rfl) rfl #[.int .i64 1] (by rfl) rfl rfl (by simp only [List.map_toArray, List.map_cons, List.map_nil]; rfl) ?_
        with_reducible refine (dk_sector 1 _).mono ?_
        rintro e w21 ⟨vs21, rfl, hR, hb⟩
        refine ⟨_, rfl, ?_⟩
        obtain ⟨As21, cs21, rfl, hcl, hcC⟩ := Kd.R_reads hR
        have HC21 := Aside0.mk hcC
        have HL21 := Aside0.mk hcl
        have HB21 := Aside0.mk (below_step HB20.out hb)
        clear hR hb hcl hcC
        refine hK.out _ _ trivial (fun hHeld => ?_)
        clear hK K
        refine norm_ (a' := ?_) ?_ ?_
        rotate_left
        · show Act.put _ (some 98) _ = _
          simp only [Act.put, List.setIfInBounds_toArray, List.set_cons_zero, List.set_cons_succ, i64_w, i32_w]
          rfl
        refine one_ (i := 3) (N := some 99) #[true, true, true, true, false, false, false, false, false, false, false, false, false, false, false, false, false, false, false, false, false, false, false, false, false, false] rfl rfl (by kernel_rfl) (by decide) (fun K hK => ?_)
        refine goes_ Try.func19 (by kernel_rfl) rfl #[.slice (some ⟨ga, 0, none⟩) 64 ca, .slice As21 (secOf 1).length cs21] (by rfl) rfl rfl (by simp only [List.map_toArray, List.map_cons, List.map_nil]; rfl) ?_
        with_reducible refine (eq_part (c := ca) (off := 0) HA13.out.2 HA13.out.1 (by decide) crA_0 HC21.out HL21.out HB21.out (Nat.sub_zero ca).symm).mono ?_
        rintro e w22 ⟨rfl, ⟨nd22, rfl⟩⟩
        refine ⟨_, rfl, ?_⟩
        have HB22 := Aside0.mk (pw_below_drewN HB21.out nd22)
        refine hK.out _ _ trivial (fun hHeld => ?_)
        clear hK K
        refine norm_ (a' := ?_) ?_ ?_
        rotate_left
        · show Act.put _ (some 99) _ = _
          simp only [Act.put, List.setIfInBounds_toArray, List.set_cons_zero, List.set_cons_succ, i64_w, i32_w]
          rfl
        refine pure_ (i := 4) (N := some 100) (v := ?_) (a' := ?_) #[true, true, true, true, true, false, false, false, false, false, false, false, false, false, false, false, false, false, false, false, false, false, false, false, false, false] rfl rfl (by kernel_rfl) (fun _ _ _ h => h) (Or.inl ⟨by rfl, ?_⟩) ?_ ?_
        rotate_left
        · intro w'
          go_simp
          with_reducible rfl
        rotate_left
        · simp only [Act.put, List.setIfInBounds_toArray, List.set_cons_zero, List.set_cons_succ, i64_w, i32_w]
          rfl
        refine pure_ (i := 5) (N := some 101) (v := ?_) (a' := ?_) #[true, true, true, true, true, true, false, false, false, false, false, false, false, false, false, false, false, false, false, false, false, false, false, false, false, false] rfl rfl (by kernel_rfl) (fun _ _ _ h => h) (Or.inl ⟨by rfl, ?_⟩) ?_ ?_
        rotate_left
        · intro w'
          go_simp
          with_reducible rfl
        rotate_left
        · simp only [Act.put, List.setIfInBounds_toArray, List.set_cons_zero, List.set_cons_succ, i64_w, i32_w]
          rfl
        refine pure_ (i := 6) (N := some 102) (v := ?_) (a' := ?_) #[true, true, true, true, true, true, true, false, false, false, false, false, false, false, false, false, false, false, false, false, false, false, false, false, false, false] rfl rfl (by kernel_rfl) (fun _ _ _ h => h) (Or.inl ⟨by rfl, ?_⟩) ?_ ?_
        rotate_left
        · intro w'
          go_simp
          with_reducible rfl
        rotate_left
        · simp only [Act.put, List.setIfInBounds_toArray, List.set_cons_zero, List.set_cons_succ, i64_w, i32_w]
          rfl
        refine pure_ (i := 7) (N := some 103) (v := ?_) (a' := ?_) #[true, true, true, true, true, true, true, true, false, false, false, false, false, false, false, false, false, false, false, false, false, false, false, false, false, false] rfl rfl (by kernel_rfl) (fun _ _ _ h => h) (Or.inl ⟨by rfl, ?_⟩) ?_ ?_
        rotate_left
        · intro w'
          go_simp
          with_reducible rfl
        rotate_left
        · simp only [Act.put, List.setIfInBounds_toArray, List.set_cons_zero, List.set_cons_succ, i64_w, i32_w]
          rfl
        refine one_ (i := 8) (N := some 104) #[true, true, true, true, true, true, true, true, true, false, false, false, false, false, false, false, false, false, false, false, false, false, false, false, false, false] rfl rfl (by kernel_rfl) (by decide) (fun K hK => ?_)
        refine goes_ Try.func19 (by kernel_rfl) rfl #[.slice (some ⟨ga, 64, none⟩) 64 (ca - 64), .slice (some ⟨w12.heap.size, 0, none⟩) 64 64] (by rfl) rfl rfl (by simp only [List.map_toArray, List.map_cons, List.map_nil]; rfl) ?_
        with_reducible refine (eq_part (c := ca) (off := 64) HA13.out.2 HA13.out.1 (by decide) crA_1 (Kd.C_below HZ13.out HB22.out) (Nat.le_refl _) HB22.out rfl).mono ?_
        rintro e w23 ⟨rfl, ⟨nd23, rfl⟩⟩
        refine ⟨_, rfl, ?_⟩
        have HB23 := Aside0.mk (pw_below_drewN HB22.out nd23)
        refine hK.out _ _ trivial (fun hHeld => ?_)
        clear hK K
        refine norm_ (a' := ?_) ?_ ?_
        rotate_left
        · show Act.put _ (some 104) _ = _
          simp only [Act.put, List.setIfInBounds_toArray, List.set_cons_zero, List.set_cons_succ, i64_w, i32_w]
          rfl
        refine pure_ (i := 9) (N := some 105) (v := ?_) (a' := ?_) #[true, true, true, true, true, true, true, true, true, true, false, false, false, false, false, false, false, false, false, false, false, false, false, false, false, false] rfl rfl (by kernel_rfl) (fun _ _ _ h => h) (Or.inl ⟨by rfl, ?_⟩) ?_ ?_
        rotate_left
        · intro w'
          go_simp
          with_reducible rfl
        rotate_left
        · simp only [Act.put, List.setIfInBounds_toArray, List.set_cons_zero, List.set_cons_succ, i64_w, i32_w]
          rfl
        refine pure_ (i := 10) (N := some 106) (v := ?_) (a' := ?_) #[true, true, true, true, true, true, true, true, true, true, true, false, false, false, false, false, false, false, false, false, false, false, false, false, false, false] rfl rfl (by kernel_rfl) (fun _ _ _ h => h) (Or.inl ⟨by rfl, ?_⟩) ?_ ?_
        rotate_left
        · intro w'
          go_simp
          with_reducible rfl
        rotate_left
        · simp only [Act.put, List.setIfInBounds_toArray, List.set_cons_zero, List.set_cons_succ, i64_w, i32_w]
          rfl
        refine pure_ (i := 11) (N := some 107) (v := ?_) (a' := ?_) #[true, true, true, true, true, true, true, true, true, true, true, true, false, false, false, false, false, false, false, false, false, false, false, false, false, false] rfl rfl (by kernel_rfl) (fun _ _ _ h => h) (Or.inl ⟨by rfl, ?_⟩) ?_ ?_
        rotate_left
        · intro w'
          go_simp
          with_reducible rfl
        rotate_left
        · simp only [Act.put, List.setIfInBounds_toArray, List.set_cons_zero, List.set_cons_succ, i64_w, i32_w]
          rfl
        refine pure_ (i := 12) (N := some 108) (v := ?_) (a' := ?_) #[true, true, true, true, true, true, true, true, true, true, true, true, true, false, false, false, false, false, false, false, false, false, false, false, false, false] rfl rfl (by kernel_rfl) (fun _ _ _ h => h) (Or.inl ⟨by rfl, ?_⟩) ?_ ?_
        rotate_left
        · intro w'
          go_simp
          with_reducible rfl
        rotate_left
        · simp only [Act.put, List.setIfInBounds_toArray, List.set_cons_zero, List.set_cons_succ, i64_w, i32_w]
          rfl
        refine one_ (i := 13) (N := some 109) #[true, true, true, true, true, true, true, true, true, true, true, true, true, true, false, false, false, false, false, false, false, false, false, false, false, false] rfl rfl (by kernel_rfl) (by decide) (fun K hK => ?_)
        refine goes_ Try.func16 (by kernel_rfl) rfl #[.int .i64 2] (by rfl) rfl rfl (by simp only [List.map_toArray, List.map_cons, List.map_nil]; rfl) ?_
        with_reducible refine (dk_sector 2 _).mono ?_
        rintro e w24 ⟨vs24, rfl, hR, hb⟩
        refine ⟨_, rfl, ?_⟩
        obtain ⟨As24, cs24, rfl, hcl, hcC⟩ := Kd.R_reads hR
        have HC24 := Aside0.mk hcC
        have HL24 := Aside0.mk hcl
        have HB24 := Aside0.mk (below_step HB23.out hb)
        clear hR hb hcl hcC
        refine hK.out _ _ trivial (fun hHeld => ?_)
        clear hK K
        refine norm_ (a' := ?_) ?_ ?_
        rotate_left
        · show Act.put _ (some 109) _ = _
          simp only [Act.put, List.setIfInBounds_toArray, List.set_cons_zero, List.set_cons_succ, i64_w, i32_w]
          rfl
        refine one_ (i := 14) (N := some 110) #[true, true, true, true, true, true, true, true, true, true, true, true, true, true, true, false, false, false, false, false, false, false, false, false, false, false] rfl rfl (by kernel_rfl) (by decide) (fun K hK => ?_)
        refine goes_ Try.func19 (by kernel_rfl) rfl #[.slice (some ⟨gb, 64, none⟩) 64 (cb - 64), .slice As24 (secOf 2).length cs24] (by rfl) rfl rfl (by simp only [List.map_toArray, List.map_cons, List.map_nil]; rfl) ?_
        with_reducible refine (eq_part (c := cb) (off := 64) HX13.out.2 HX13.out.1 (by decide) crB_1 HC24.out HL24.out HB24.out rfl).mono ?_
        rintro e w25 ⟨rfl, ⟨nd25, rfl⟩⟩
        refine ⟨_, rfl, ?_⟩
        have HB25 := Aside0.mk (pw_below_drewN HB24.out nd25)
        refine hK.out _ _ trivial (fun hHeld => ?_)
        clear hK K
        refine norm_ (a' := ?_) ?_ ?_
        rotate_left
        · show Act.put _ (some 110) _ = _
          simp only [Act.put, List.setIfInBounds_toArray, List.set_cons_zero, List.set_cons_succ, i64_w, i32_w]
          rfl
        refine pure_ (i := 15) (N := some 111) (v := ?_) (a' := ?_) #[true, true, true, true, true, true, true, true, true, true, true, true, true, true, true, true, false, false, false, false, false, false, false, false, false, false] rfl rfl (by kernel_rfl) (fun _ _ _ h => h) (Or.inl ⟨by rfl, ?_⟩) ?_ ?_
        rotate_left
        · intro w'
          go_simp
          with_reducible rfl
        rotate_left
        · simp only [Act.put, List.setIfInBounds_toArray, List.set_cons_zero, List.set_cons_succ, i64_w, i32_w]
          rfl
        refine pure_ (i := 16) (N := some 112) (v := ?_) (a' := ?_) #[true, true, true, true, true, true, true, true, true, true, true, true, true, true, true, true, true, false, false, false, false, false, false, false, false, false] rfl rfl (by kernel_rfl) (fun _ _ _ h => h) (Or.inl ⟨by rfl, ?_⟩) ?_ ?_
        rotate_left
        · intro w'
          go_simp
          with_reducible rfl
        rotate_left
        · simp only [Act.put, List.setIfInBounds_toArray, List.set_cons_zero, List.set_cons_succ, i64_w, i32_w]
          rfl
        refine pure_ (i := 17) (N := some 113) (v := ?_) (a' := ?_) #[true, true, true, true, true, true, true, true, true, true, true, true, true, true, true, true, true, true, false, false, false, false, false, false, false, false] rfl rfl (by kernel_rfl) (fun _ _ _ h => h) (Or.inl ⟨by rfl, ?_⟩) ?_ ?_
        rotate_left
        · intro w'
          go_simp
          with_reducible rfl
        rotate_left
        · simp only [Act.put, List.setIfInBounds_toArray, List.set_cons_zero, List.set_cons_succ, i64_w, i32_w]
          rfl
        refine pure_ (i := 18) (N := some 114) (v := ?_) (a' := ?_) #[true, true, true, true, true, true, true, true, true, true, true, true, true, true, true, true, true, true, true, false, false, false, false, false, false, false] rfl rfl (by kernel_rfl) (fun _ _ _ h => h) (Or.inl ⟨by rfl, ?_⟩) ?_ ?_
        rotate_left
        · intro w'
          go_simp
          with_reducible rfl
        rotate_left
        · simp only [Act.put, List.setIfInBounds_toArray, List.set_cons_zero, List.set_cons_succ, i64_w, i32_w]
          rfl
        refine pure_ (i := 19) (N := some 115) (v := ?_) (a' := ?_) #[true, true, true, true, true, true, true, true, true, true, true, true, true, true, true, true, true, true, true, true, false, false, false, false, false, false] rfl rfl (by kernel_rfl) (fun _ _ _ h => h) (Or.inl ⟨by rfl, ?_⟩) ?_ ?_
        rotate_left
        · intro w'
          go_simp
          with_reducible rfl
        rotate_left
        · simp only [Act.put, List.setIfInBounds_toArray, List.set_cons_zero, List.set_cons_succ, i64_w, i32_w]
          rfl
        refine one_ (i := 20) (N := some 116) #[true, true, true, true, true, true, true, true, true, true, true, true, true, true, true, true, true, true, true, true, true, false, false, false, false, false] rfl rfl (by kernel_rfl) (by decide) (fun K hK => ?_)
        refine goes_ Try.func19 (by kernel_rfl) rfl #[.slice (some ⟨gb, 128, none⟩) 64 (cb - 128), .slice (some ⟨w12.heap.size, 0, none⟩) 64 64] (by rfl) rfl rfl (by simp only [List.map_toArray, List.map_cons, List.map_nil]; rfl) ?_
        with_reducible refine (eq_part (c := cb) (off := 128) HX13.out.2 HX13.out.1 (by decide) crB_2 (Kd.C_below HZ13.out HB25.out) (Nat.le_refl _) HB25.out rfl).mono ?_
        rintro e w26 ⟨rfl, ⟨nd26, rfl⟩⟩
        refine ⟨_, rfl, ?_⟩
        have HB26 := Aside0.mk (pw_below_drewN HB25.out nd26)
        refine hK.out _ _ trivial (fun hHeld => ?_)
        clear hK K
        refine norm_ (a' := ?_) ?_ ?_
        rotate_left
        · show Act.put _ (some 116) _ = _
          simp only [Act.put, List.setIfInBounds_toArray, List.set_cons_zero, List.set_cons_succ, i64_w, i32_w]
          rfl
        refine pure_ (i := 21) (N := some 117) (v := ?_) (a' := ?_) #[true, true, true, true, true, true, true, true, true, true, true, true, true, true, true, true, true, true, true, true, true, true, false, false, false, false] rfl rfl (by kernel_rfl) (fun _ _ _ h => h) (Or.inl ⟨by rfl, ?_⟩) ?_ ?_
        rotate_left
        · intro w'
          go_simp
          with_reducible rfl
        rotate_left
        · simp only [Act.put, List.setIfInBounds_toArray, List.set_cons_zero, List.set_cons_succ, i64_w, i32_w]
          rfl
        refine pure_ (i := 22) (N := some 118) (v := ?_) (a' := ?_) #[true, true, true, true, true, true, true, true, true, true, true, true, true, true, true, true, true, true, true, true, true, true, true, false, false, false] rfl rfl (by kernel_rfl) (fun _ _ _ h => h) (Or.inl ⟨by rfl, ?_⟩) ?_ ?_
        rotate_left
        · intro w'
          go_simp
          with_reducible rfl
        rotate_left
        · simp only [Act.put, List.setIfInBounds_toArray, List.set_cons_zero, List.set_cons_succ, i64_w, i32_w]
          rfl
        refine one_ (i := 23) (N := some 119) #[true, true, true, true, true, true, true, true, true, true, true, true, true, true, true, true, true, true, true, true, true, true, true, true, false, false] rfl rfl (by kernel_rfl) (by decide) (fun K hK => ?_)
        refine goes_ Try.func17 (by kernel_rfl) rfl #[] (by rfl) rfl rfl (by simp only [List.map_toArray, List.map_cons, List.map_nil]) ?_
        with_reducible refine (dk_wakes _).mono ?_
        rintro e w27 ⟨rfl, hb⟩
        refine ⟨_, rfl, ?_⟩
        have HB27 := Aside0.mk (below_step HB26.out hb)
        clear hb
        refine hK.out _ _ trivial (fun hHeld => ?_)
        clear hK K
        refine norm_ (a' := ?_) ?_ ?_
        rotate_left
        · show Act.put _ (some 119) _ = _
          simp only [Act.put, List.setIfInBounds_toArray, List.set_cons_zero, List.set_cons_succ, i64_w, i32_w]
          rfl
        refine pure_ (i := 24) (N := some 120) (v := ?_) (a' := ?_) #[true, true, true, true, true, true, true, true, true, true, true, true, true, true, true, true, true, true, true, true, true, true, true, true, true, false] rfl rfl (by kernel_rfl) (fun _ _ _ h => h) (Or.inl ⟨by rfl, ?_⟩) ?_ ?_
        rotate_left
        · intro w'
          go_simp
          with_reducible rfl
        rotate_left
        · simp only [Act.put, List.setIfInBounds_toArray, List.set_cons_zero, List.set_cons_succ, i64_w, i32_w]
          rfl
        refine pure_ (i := 25) (N := some 2) (v := ?_) (a' := ?_) #[true, true, true, true, true, true, true, true, true, true, true, true, true, true, true, true, true, true, true, true, true, true, true, true, true, true] rfl rfl (by kernel_rfl) (fun _ _ _ h => h) (Or.inl ⟨by rfl, ?_⟩) ?_ ?_
        rotate_left
        · intro w'
          go_simp
          with_reducible rfl
        rotate_left
        · simp only [Act.put, List.setIfInBounds_toArray, List.set_cons_zero, List.set_cons_succ, i64_w, i32_w]
          rfl
        refine done_ (by kernel_rfl) ?_
        go_wp2
        go_ret
        exact ⟨rfl, below_step (below_alloc HB12.out _) HB27.out⟩
    · have hge : decide (n < n2) = false := decide_eq_false hlt
      have hcap0 := True.intro
      go_wp2_with fail
      refine (dk_Crash d none 0 [] _ _ _ _ HD.out (Kd.C_nil _ _) (Nat.le_refl _)).mono ?_
      rintro e' w10 ⟨va, rfl, hR, hb⟩
      rw [off_crA] at hR
      obtain ⟨ga, ca, rfl, _⟩ := Kd.R_form hR (by rw [crA_len]; decide)
      rw [crA_len] at hR
      rw [crA_len]
      have HA := Aside0.mk (R_C hR)
      have HD10 := Aside0.mk (HD.out.below hb)
      have HB10 := Aside0.mk (below_step HB.out hb)
      clear hR hb
      go_wp2_with fail
      refine (dk_Crash d (some ⟨w10.heap.size, 0, none⟩) 3 [1, 1, 1] _ _ _ _ (HD10.out.below (below_alloc (Below.refl _ _) _)) (nums_C (xs := [1, 1, 1]) (blk_new w10 (.cells #[.int .i64 1, .int .i64 1, .int .i64 1] 3)) (by decide)) (Nat.le_refl _)).mono ?_
      rintro e' w12 ⟨vb, rfl, hR, hb⟩
      rw [off_crB] at hR
      obtain ⟨gb, cb, rfl, _⟩ := Kd.R_form hR (by rw [crB_len]; decide)
      rw [crB_len] at hR
      rw [crB_len]
      have HX := Aside0.mk (R_C hR)
      have HA12 : Aside0 (256 ≤ ca ∧ (Kd.int .u8).C w12 (some ⟨ga, 0, none⟩) 256 crA) := ⟨HA.out.1, Kd.C_below (Kd.C_alloc HA.out.2 _) hb⟩
      have HB12 := Aside0.mk (below_step (below_alloc HB10.out _) hb)
      have hca := HA.out.1
      have hcb := HX.out.1
      clear hR hb HA
      have hi1 : (64 : Int) ≤ (ca : Int) := by omega
      have hi2 : (128 : Int) ≤ (ca : Int) := by omega
      have hi3 : (64 : Int) ≤ (cb : Int) := by omega
      have hi4 : (128 : Int) ≤ (cb : Int) := by omega
      have hi5 : (192 : Int) ≤ (cb : Int) := by omega
      have hj1 : ¬ (ca = 64) := by omega
      have hj2 : ¬ (cb = 64) := by omega
      have hj3 : ¬ (cb = 128) := by omega
      have hj4 : ¬ (ca = 0) := by omega
      have hj5 : ¬ (cb = 0) := by omega
      go_upto_region 17 with (fail)
      have HA13 : Aside0 (256 ≤ ca ∧ (Kd.int .u8).C (w12.alloc (.cells (nums .u8 z6).toArray 5)) (some ⟨ga, 0, none⟩) 256 crA) := ⟨HA12.out.1, Kd.C_alloc HA12.out.2 _⟩
      have HX13 : Aside0 (256 ≤ cb ∧ (Kd.int .u8).C (w12.alloc (.cells (nums .u8 z6).toArray 5)) (some ⟨gb, 0, none⟩) 256 crB) := ⟨HX.out.1, Kd.C_alloc HX.out.2 _⟩
      have HZ13 : Aside0 ((Kd.int .u8).C (w12.alloc (.cells (nums .u8 z6).toArray 5)) (some ⟨w12.heap.size, 0, none⟩) 64 (List.replicate 64 0)) := ⟨by rw [← HZ6.out]; exact (R_C (HR6.out w12)).2⟩
      have HB20 : Aside0 (Below (w12.alloc (.cells (nums .u8 z6).toArray 5)).heap.size (w12.alloc (.cells (nums .u8 z6).toArray 5)) (w12.alloc (.cells (nums .u8 z6).toArray 5)).drew) := ⟨below_drew (Below.refl _ _)⟩
      refine start_ (n := 26) (S := fun w' => True) (ds := []) #[false, false, false, false, false, false, false, false, false, false, false, false, false, false, false, false, false, false, false, false, false, false, false, false, false, false] (by kernel_rfl) rfl rfl trivial (fun hHeld => ?_)
      refine pure_ (i := 0) (N := some 96) (v := ?_) (a' := ?_) #[true, false, false, false, false, false, false, false, false, false, false, false, false, false, false, false, false, false, false, false, false, false, false, false, false, false] rfl rfl (by kernel_rfl) (fun _ _ _ h => h) (Or.inl ⟨by rfl, ?_⟩) ?_ ?_
      rotate_left
      · intro w'
        go_simp
        with_reducible rfl
      rotate_left
      · simp only [Act.put, List.setIfInBounds_toArray, List.set_cons_zero, List.set_cons_succ, i64_w, i32_w]
        rfl
      refine pure_ (i := 1) (N := some 97) (v := ?_) (a' := ?_) #[true, true, false, false, false, false, false, false, false, false, false, false, false, false, false, false, false, false, false, false, false, false, false, false, false, false] rfl rfl (by kernel_rfl) (fun _ _ _ h => h) (Or.inl ⟨by rfl, ?_⟩) ?_ ?_
      rotate_left
      · intro w'
        go_simp
        with_reducible rfl
      rotate_left
      · simp only [Act.put, List.setIfInBounds_toArray, List.set_cons_zero, List.set_cons_succ, i64_w, i32_w]
        rfl
      refine one_ (i := 2) (N := some 98) #[true, true, true, false, false, false, false, false, false, false, false, false, false, false, false, false, false, false, false, false, false, false, false, false, false, false] rfl rfl (by kernel_rfl) (by decide) (fun K hK => ?_)
      refine goes_ Try.func16 (by kernel_rfl) rfl #[.int .i64 1] (by rfl) rfl rfl (by simp only [List.map_toArray, List.map_cons, List.map_nil]; rfl) ?_
      with_reducible refine (dk_sector 1 _).mono ?_
      rintro e w21 ⟨vs21, rfl, hR, hb⟩
      refine ⟨_, rfl, ?_⟩
      obtain ⟨As21, cs21, rfl, hcl, hcC⟩ := Kd.R_reads hR
      have HC21 := Aside0.mk hcC
      have HL21 := Aside0.mk hcl
      have HB21 := Aside0.mk (below_step HB20.out hb)
      clear hR hb hcl hcC
      refine hK.out _ _ trivial (fun hHeld => ?_)
      clear hK K
      refine norm_ (a' := ?_) ?_ ?_
      rotate_left
      · show Act.put _ (some 98) _ = _
        simp only [Act.put, List.setIfInBounds_toArray, List.set_cons_zero, List.set_cons_succ, i64_w, i32_w]
        rfl
      refine one_ (i := 3) (N := some 99) #[true, true, true, true, false, false, false, false, false, false, false, false, false, false, false, false, false, false, false, false, false, false, false, false, false, false] rfl rfl (by kernel_rfl) (by decide) (fun K hK => ?_)
      refine goes_ Try.func19 (by kernel_rfl) rfl #[.slice (some ⟨ga, 0, none⟩) 64 ca, .slice As21 (secOf 1).length cs21] (by rfl) rfl rfl (by simp only [List.map_toArray, List.map_cons, List.map_nil]; rfl) ?_
      with_reducible refine (eq_part (c := ca) (off := 0) HA13.out.2 HA13.out.1 (by decide) crA_0 HC21.out HL21.out HB21.out (Nat.sub_zero ca).symm).mono ?_
      rintro e w22 ⟨rfl, ⟨nd22, rfl⟩⟩
      refine ⟨_, rfl, ?_⟩
      have HB22 := Aside0.mk (pw_below_drewN HB21.out nd22)
      refine hK.out _ _ trivial (fun hHeld => ?_)
      clear hK K
      refine norm_ (a' := ?_) ?_ ?_
      rotate_left
      · show Act.put _ (some 99) _ = _
        simp only [Act.put, List.setIfInBounds_toArray, List.set_cons_zero, List.set_cons_succ, i64_w, i32_w]
        rfl
      refine pure_ (i := 4) (N := some 100) (v := ?_) (a' := ?_) #[true, true, true, true, true, false, false, false, false, false, false, false, false, false, false, false, false, false, false, false, false, false, false, false, false, false] rfl rfl (by kernel_rfl) (fun _ _ _ h => h) (Or.inl ⟨by rfl, ?_⟩) ?_ ?_
      rotate_left
      · intro w'
        go_simp
        with_reducible rfl
      rotate_left
      · simp only [Act.put, List.setIfInBounds_toArray, List.set_cons_zero, List.set_cons_succ, i64_w, i32_w]
        rfl
      refine pure_ (i := 5) (N := some 101) (v := ?_) (a' := ?_) #[true, true, true, true, true, true, false, false, false, false, false, false, false, false, false, false, false, false, false, false, false, false, false, false, false, false] rfl rfl (by kernel_rfl) (fun _ _ _ h => h) (Or.inl ⟨by rfl, ?_⟩) ?_ ?_
      rotate_left
      · intro w'
        go_simp
        with_reducible rfl
      rotate_left
      · simp only [Act.put, List.setIfInBounds_toArray, List.set_cons_zero, List.set_cons_succ, i64_w, i32_w]
        rfl
      refine pure_ (i := 6) (N := some 102) (v := ?_) (a' := ?_) #[true, true, true, true, true, true, true, false, false, false, false, false, false, false, false, false, false, false, false, false, false, false, false, false, false, false] rfl rfl (by kernel_rfl) (fun _ _ _ h => h) (Or.inl ⟨by rfl, ?_⟩) ?_ ?_
      rotate_left
      · intro w'
        go_simp
        with_reducible rfl
      rotate_left
      · simp only [Act.put, List.setIfInBounds_toArray, List.set_cons_zero, List.set_cons_succ, i64_w, i32_w]
        rfl
      refine pure_ (i := 7) (N := some 103) (v := ?_) (a' := ?_) #[true, true, true, true, true, true, true, true, false, false, false, false, false, false, false, false, false, false, false, false, false, false, false, false, false, false] rfl rfl (by kernel_rfl) (fun _ _ _ h => h) (Or.inl ⟨by rfl, ?_⟩) ?_ ?_
      rotate_left
      · intro w'
        go_simp
        with_reducible rfl
      rotate_left
      · simp only [Act.put, List.setIfInBounds_toArray, List.set_cons_zero, List.set_cons_succ, i64_w, i32_w]
        rfl
      refine one_ (i := 8) (N := some 104) #[true, true, true, true, true, true, true, true, true, false, false, false, false, false, false, false, false, false, false, false, false, false, false, false, false, false] rfl rfl (by kernel_rfl) (by decide) (fun K hK => ?_)
      refine goes_ Try.func19 (by kernel_rfl) rfl #[.slice (some ⟨ga, 64, none⟩) 64 (ca - 64), .slice (some ⟨w12.heap.size, 0, none⟩) 64 64] (by rfl) rfl rfl (by simp only [List.map_toArray, List.map_cons, List.map_nil]; rfl) ?_
      with_reducible refine (eq_part (c := ca) (off := 64) HA13.out.2 HA13.out.1 (by decide) crA_1 (Kd.C_below HZ13.out HB22.out) (Nat.le_refl _) HB22.out rfl).mono ?_
      rintro e w23 ⟨rfl, ⟨nd23, rfl⟩⟩
      refine ⟨_, rfl, ?_⟩
      have HB23 := Aside0.mk (pw_below_drewN HB22.out nd23)
      refine hK.out _ _ trivial (fun hHeld => ?_)
      clear hK K
      refine norm_ (a' := ?_) ?_ ?_
      rotate_left
      · show Act.put _ (some 104) _ = _
        simp only [Act.put, List.setIfInBounds_toArray, List.set_cons_zero, List.set_cons_succ, i64_w, i32_w]
        rfl
      refine pure_ (i := 9) (N := some 105) (v := ?_) (a' := ?_) #[true, true, true, true, true, true, true, true, true, true, false, false, false, false, false, false, false, false, false, false, false, false, false, false, false, false] rfl rfl (by kernel_rfl) (fun _ _ _ h => h) (Or.inl ⟨by rfl, ?_⟩) ?_ ?_
      rotate_left
      · intro w'
        go_simp
        with_reducible rfl
      rotate_left
      · simp only [Act.put, List.setIfInBounds_toArray, List.set_cons_zero, List.set_cons_succ, i64_w, i32_w]
        rfl
      refine pure_ (i := 10) (N := some 106) (v := ?_) (a' := ?_) #[true, true, true, true, true, true, true, true, true, true, true, false, false, false, false, false, false, false, false, false, false, false, false, false, false, false] rfl rfl (by kernel_rfl) (fun _ _ _ h => h) (Or.inl ⟨by rfl, ?_⟩) ?_ ?_
      rotate_left
      · intro w'
        go_simp
        with_reducible rfl
      rotate_left
      · simp only [Act.put, List.setIfInBounds_toArray, List.set_cons_zero, List.set_cons_succ, i64_w, i32_w]
        rfl
      refine pure_ (i := 11) (N := some 107) (v := ?_) (a' := ?_) #[true, true, true, true, true, true, true, true, true, true, true, true, false, false, false, false, false, false, false, false, false, false, false, false, false, false] rfl rfl (by kernel_rfl) (fun _ _ _ h => h) (Or.inl ⟨by rfl, ?_⟩) ?_ ?_
      rotate_left
      · intro w'
        go_simp
        with_reducible rfl
      rotate_left
      · simp only [Act.put, List.setIfInBounds_toArray, List.set_cons_zero, List.set_cons_succ, i64_w, i32_w]
        rfl
      refine pure_ (i := 12) (N := some 108) (v := ?_) (a' := ?_) #[true, true, true, true, true, true, true, true, true, true, true, true, true, false, false, false, false, false, false, false, false, false, false, false, false, false] rfl rfl (by kernel_rfl) (fun _ _ _ h => h) (Or.inl ⟨by rfl, ?_⟩) ?_ ?_
      rotate_left
      · intro w'
        go_simp
        with_reducible rfl
      rotate_left
      · simp only [Act.put, List.setIfInBounds_toArray, List.set_cons_zero, List.set_cons_succ, i64_w, i32_w]
        rfl
      refine one_ (i := 13) (N := some 109) #[true, true, true, true, true, true, true, true, true, true, true, true, true, true, false, false, false, false, false, false, false, false, false, false, false, false] rfl rfl (by kernel_rfl) (by decide) (fun K hK => ?_)
      refine goes_ Try.func16 (by kernel_rfl) rfl #[.int .i64 2] (by rfl) rfl rfl (by simp only [List.map_toArray, List.map_cons, List.map_nil]; rfl) ?_
      with_reducible refine (dk_sector 2 _).mono ?_
      rintro e w24 ⟨vs24, rfl, hR, hb⟩
      refine ⟨_, rfl, ?_⟩
      obtain ⟨As24, cs24, rfl, hcl, hcC⟩ := Kd.R_reads hR
      have HC24 := Aside0.mk hcC
      have HL24 := Aside0.mk hcl
      have HB24 := Aside0.mk (below_step HB23.out hb)
      clear hR hb hcl hcC
      refine hK.out _ _ trivial (fun hHeld => ?_)
      clear hK K
      refine norm_ (a' := ?_) ?_ ?_
      rotate_left
      · show Act.put _ (some 109) _ = _
        simp only [Act.put, List.setIfInBounds_toArray, List.set_cons_zero, List.set_cons_succ, i64_w, i32_w]
        rfl
      refine one_ (i := 14) (N := some 110) #[true, true, true, true, true, true, true, true, true, true, true, true, true, true, true, false, false, false, false, false, false, false, false, false, false, false] rfl rfl (by kernel_rfl) (by decide) (fun K hK => ?_)
      refine goes_ Try.func19 (by kernel_rfl) rfl #[.slice (some ⟨gb, 64, none⟩) 64 (cb - 64), .slice As24 (secOf 2).length cs24] (by rfl) rfl rfl (by simp only [List.map_toArray, List.map_cons, List.map_nil]; rfl) ?_
      with_reducible refine (eq_part (c := cb) (off := 64) HX13.out.2 HX13.out.1 (by decide) crB_1 HC24.out HL24.out HB24.out rfl).mono ?_
      rintro e w25 ⟨rfl, ⟨nd25, rfl⟩⟩
      refine ⟨_, rfl, ?_⟩
      have HB25 := Aside0.mk (pw_below_drewN HB24.out nd25)
      refine hK.out _ _ trivial (fun hHeld => ?_)
      clear hK K
      refine norm_ (a' := ?_) ?_ ?_
      rotate_left
      · show Act.put _ (some 110) _ = _
        simp only [Act.put, List.setIfInBounds_toArray, List.set_cons_zero, List.set_cons_succ, i64_w, i32_w]
        rfl
      refine pure_ (i := 15) (N := some 111) (v := ?_) (a' := ?_) #[true, true, true, true, true, true, true, true, true, true, true, true, true, true, true, true, false, false, false, false, false, false, false, false, false, false] rfl rfl (by kernel_rfl) (fun _ _ _ h => h) (Or.inl ⟨by rfl, ?_⟩) ?_ ?_
      rotate_left
      · intro w'
        go_simp
        with_reducible rfl
      rotate_left
      · simp only [Act.put, List.setIfInBounds_toArray, List.set_cons_zero, List.set_cons_succ, i64_w, i32_w]
        rfl
      refine pure_ (i := 16) (N := some 112) (v := ?_) (a' := ?_) #[true, true, true, true, true, true, true, true, true, true, true, true, true, true, true, true, true, false, false, false, false, false, false, false, false, false] rfl rfl (by kernel_rfl) (fun _ _ _ h => h) (Or.inl ⟨by rfl, ?_⟩) ?_ ?_
      rotate_left
      · intro w'
        go_simp
        with_reducible rfl
      rotate_left
      · simp only [Act.put, List.setIfInBounds_toArray, List.set_cons_zero, List.set_cons_succ, i64_w, i32_w]
        rfl
      refine pure_ (i := 17) (N := some 113) (v := ?_) (a' := ?_) #[true, true, true, true, true, true, true, true, true, true, true, true, true, true, true, true, true, true, false, false, false, false, false, false, false, false] rfl rfl (by kernel_rfl) (fun _ _ _ h => h) (Or.inl ⟨by rfl, ?_⟩) ?_ ?_
      rotate_left
      · intro w'
        go_simp
        with_reducible rfl
      rotate_left
      · simp only [Act.put, List.setIfInBounds_toArray, List.set_cons_zero, List.set_cons_succ, i64_w, i32_w]
        rfl
      refine pure_ (i := 18) (N := some 114) (v := ?_) (a' := ?_) #[true, true, true, true, true, true, true, true, true, true, true, true, true, true, true, true, true, true, true, false, false, false, false, false, false, false] rfl rfl (by kernel_rfl) (fun _ _ _ h => h) (Or.inl ⟨by rfl, ?_⟩) ?_ ?_
      rotate_left
      · intro w'
        go_simp
        with_reducible rfl
      rotate_left
      · simp only [Act.put, List.setIfInBounds_toArray, List.set_cons_zero, List.set_cons_succ, i64_w, i32_w]
        rfl
      refine pure_ (i := 19) (N := some 115) (v := ?_) (a' := ?_) #[true, true, true, true, true, true, true, true, true, true, true, true, true, true, true, true, true, true, true, true, false, false, false, false, false, false] rfl rfl (by kernel_rfl) (fun _ _ _ h => h) (Or.inl ⟨by rfl, ?_⟩) ?_ ?_
      rotate_left
      · intro w'
        go_simp
        with_reducible rfl
      rotate_left
      · simp only [Act.put, List.setIfInBounds_toArray, List.set_cons_zero, List.set_cons_succ, i64_w, i32_w]
        rfl
      refine one_ (i := 20) (N := some 116) #[true, true, true, true, true, true, true, true, true, true, true, true, true, true, true, true, true, true, true, true, true, false, false, false, false, false] rfl rfl (by kernel_rfl) (by decide) (fun K hK => ?_)
      refine goes_ Try.func19 (by kernel_rfl) rfl #[.slice (some ⟨gb, 128, none⟩) 64 (cb - 128), .slice (some ⟨w12.heap.size, 0, none⟩) 64 64] (by rfl) rfl rfl (by simp only [List.map_toArray, List.map_cons, List.map_nil]; rfl) ?_
      with_reducible refine (eq_part (c := cb) (off := 128) HX13.out.2 HX13.out.1 (by decide) crB_2 (Kd.C_below HZ13.out HB25.out) (Nat.le_refl _) HB25.out rfl).mono ?_
      rintro e w26 ⟨rfl, ⟨nd26, rfl⟩⟩
      refine ⟨_, rfl, ?_⟩
      have HB26 := Aside0.mk (pw_below_drewN HB25.out nd26)
      refine hK.out _ _ trivial (fun hHeld => ?_)
      clear hK K
      refine norm_ (a' := ?_) ?_ ?_
      rotate_left
      · show Act.put _ (some 116) _ = _
        simp only [Act.put, List.setIfInBounds_toArray, List.set_cons_zero, List.set_cons_succ, i64_w, i32_w]
        rfl
      refine pure_ (i := 21) (N := some 117) (v := ?_) (a' := ?_) #[true, true, true, true, true, true, true, true, true, true, true, true, true, true, true, true, true, true, true, true, true, true, false, false, false, false] rfl rfl (by kernel_rfl) (fun _ _ _ h => h) (Or.inl ⟨by rfl, ?_⟩) ?_ ?_
      rotate_left
      · intro w'
        go_simp
        with_reducible rfl
      rotate_left
      · simp only [Act.put, List.setIfInBounds_toArray, List.set_cons_zero, List.set_cons_succ, i64_w, i32_w]
        rfl
      refine pure_ (i := 22) (N := some 118) (v := ?_) (a' := ?_) #[true, true, true, true, true, true, true, true, true, true, true, true, true, true, true, true, true, true, true, true, true, true, true, false, false, false] rfl rfl (by kernel_rfl) (fun _ _ _ h => h) (Or.inl ⟨by rfl, ?_⟩) ?_ ?_
      rotate_left
      · intro w'
        go_simp
        with_reducible rfl
      rotate_left
      · simp only [Act.put, List.setIfInBounds_toArray, List.set_cons_zero, List.set_cons_succ, i64_w, i32_w]
        rfl
      refine one_ (i := 23) (N := some 119) #[true, true, true, true, true, true, true, true, true, true, true, true, true, true, true, true, true, true, true, true, true, true, true, true, false, false] rfl rfl (by kernel_rfl) (by decide) (fun K hK => ?_)
      refine goes_ Try.func17 (by kernel_rfl) rfl #[] (by rfl) rfl rfl (by simp only [List.map_toArray, List.map_cons, List.map_nil]) ?_
      with_reducible refine (dk_wakes _).mono ?_
      rintro e w27 ⟨rfl, hb⟩
      refine ⟨_, rfl, ?_⟩
      have HB27 := Aside0.mk (below_step HB26.out hb)
      clear hb
      refine hK.out _ _ trivial (fun hHeld => ?_)
      clear hK K
      refine norm_ (a' := ?_) ?_ ?_
      rotate_left
      · show Act.put _ (some 119) _ = _
        simp only [Act.put, List.setIfInBounds_toArray, List.set_cons_zero, List.set_cons_succ, i64_w, i32_w]
        rfl
      refine pure_ (i := 24) (N := some 120) (v := ?_) (a' := ?_) #[true, true, true, true, true, true, true, true, true, true, true, true, true, true, true, true, true, true, true, true, true, true, true, true, true, false] rfl rfl (by kernel_rfl) (fun _ _ _ h => h) (Or.inl ⟨by rfl, ?_⟩) ?_ ?_
      rotate_left
      · intro w'
        go_simp
        with_reducible rfl
      rotate_left
      · simp only [Act.put, List.setIfInBounds_toArray, List.set_cons_zero, List.set_cons_succ, i64_w, i32_w]
        rfl
      refine pure_ (i := 25) (N := some 2) (v := ?_) (a' := ?_) #[true, true, true, true, true, true, true, true, true, true, true, true, true, true, true, true, true, true, true, true, true, true, true, true, true, true] rfl rfl (by kernel_rfl) (fun _ _ _ h => h) (Or.inl ⟨by rfl, ?_⟩) ?_ ?_
      rotate_left
      · intro w'
        go_simp
        with_reducible rfl
      rotate_left
      · simp only [Act.put, List.setIfInBounds_toArray, List.set_cons_zero, List.set_cons_succ, i64_w, i32_w]
        rfl
      refine done_ (by kernel_rfl) ?_
      go_wp2
      go_ret
      exact ⟨rfl, below_step (below_alloc HB12.out _) HB27.out⟩

end Go.Proofs.Ytpkhpfgojhojaaa.PDk
