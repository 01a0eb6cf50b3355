/- Parts of one proof, merged by merge.py of this repo: walks over the given program and plain facts, used by the law of the file YtpkhpfgojhojaaaCLogModel. -/
import Derived.Test.YtpkhpfgojhojaaaMLogModel3
import Derived.Test.YtpkhpfgojhojaaaMLogModel4
import Derived.Test.YtpkhpfgojhojaaaMLogModel2
namespace Go.Proofs.Ytpkhpfgojhojaaa.PLg
open Go.RowKit Go.Proofs.YtpkhpfgojhojaaaW.PrintWords Go.Proofs.YtpkhpfgojhojaaaW.PrintLast Go.Proofs.YtpkhpfgojhojaaaW.PrintMore
attribute [local go_sem] max2_int min2_int max_two min_two max_three min_three max_four min_four
set_option linter.unusedVariables false
set_option linter.unusedSimpArgs false
-- FUNCTION: (*gangway/log.Log).asked
-- IMPORT: Derived.Test.@N@WOwn
-- IMPORT: Derived.Test.@N@DLbase
-- IMPORT: Derived.Test.@N@DRead
/-- A sector that is a head, or is none. -/
def HeadAt (b : List Int) (nr size : Int) : Prop := ∃ (k : Nat) (s : Int), log_word.f k b = some 1734438503 ∧ log_word.f k (b.drop 8) = some nr ∧ log_word.f k (b.drop 16) = some size ∧ log_word.f k (b.drop 24) = some s ∧ log_sum.f k (b.take 24) = some s
def NoHead (b : List Int) : Prop := ∃ (k : Nat) (m n : Int), log_word.f k b = some m ∧ m ≠ 1734438503 ∧ log_word.f k (b.drop 16) = some n
theorem lg_word (k : Nat) (A : Option Addr) (n c : Nat) (l : List Int) (m : Int) (w : World) (hC : (Kd.int .u8).C w A n l) (hc : n ≤ c) (h : log_word.f k l = some m) :
    Calls Try.prog 65 #[.slice A n c] w fun e w' => e = .returned (.int .u64 m) ∧ Drawn0 w w' := by
  obtain rfl := hC.1
  exact log_word.calls k A c l m w hC hc h
theorem lg_sum (k : Nat) (A : Option Addr) (n c : Nat) (l : List Int) (m : Int) (w : World) (hC : (Kd.int .u8).C w A n l) (hc : n ≤ c) (h : log_sum.f k l = some m) :
    Calls Try.prog 66 #[.slice A n c] w fun e w' => e = .returned (.int .u64 m) ∧ Drawn0 w w' := by
  obtain rfl := hC.1
  exact log_sum.calls k A c l m w hC hc h
theorem sec_part {w : World} {g : Nat} {b : List Int} (hl : b.length = 64) (h : (Kd.int .u8).C w (some ⟨g, 0, none⟩) 64 b) (o : Nat) (ho : o ≤ 64) : (Kd.int .u8).C w (some ⟨g, o, none⟩) (64 - o) (b.drop o) := by
  have := C_sub (off := o) (m := 64 - o) h (by omega)
  rwa [List.take_of_length_le (by rw [List.length_drop]; omega)] at this
theorem sec_head {w : World} {g : Nat} {b : List Int} (h : (Kd.int .u8).C w (some ⟨g, 0, none⟩) 64 b) : (Kd.int .u8).C w (some ⟨g, 0, none⟩) 24 (b.take 24) := C_sub (off := 0) (m := 24) h (by omega)
set_option maxHeartbeats 8000000 in
set_option maxRecDepth 100000 in
theorem log_Log_asked.walk (g : Nat) (i : Nat) (w : World) (bd : Nat) (ok : Nat → Prop) (d : Nat) (x : Lg) (h : LgAt w bd ok g d x) (hoff : x.y.off = false) (hi : (i : Int) < (x.y.E.length : Int) / 64) (nr sz : Int) (hh : (NoHead (sec x.y.E i) ∧ nr = 0 ∧ sz = 0) ∨ (HeadAt (sec x.y.E i) nr sz ∧ 0 ≤ sz ∧ sz ≤ (x.area : Int) * 64)) :
    Calls Try.prog 57 #[.pointer (some ⟨g, 0, none⟩), .int .i64 i] w fun e w' => e = .returned (.tuple #[.int .u64 nr, .int .i64 sz, .int .i64 0]) ∧ Below w.heap.size w w' := by
  have H := Aside0.mk h
  obtain ⟨okd, okl, v, h1, h2, _⟩ := h
  have hc0 := (blk_cell h1 0).trans rfl
  have HD := Aside0.mk h2
  have hls := Try.underlying94
  have hge : decide ((i : Int) ≥ (x.y.E.length : Int) / 64) = false := decide_eq_false (by omega)
  have hge2 : decide ((x.y.E.length : Int) / 64 ≤ (i : Int)) = false := decide_eq_false (by omega)
  have hrd : x.y.read i = (sec x.y.E i, 0) := by
    unfold Dk.read
    rw [if_pos ⟨by omega, hi⟩, if_neg (by rw [hoff]; decide), Int.toNat_natCast]
  have HRD := Aside0.mk hrd
  have HLB : Aside0 ((sec x.y.E i).length = 64) := ⟨length_sec _ _ (by have := h2.fits.2.1; omega)⟩
  have HA : Aside0 (x.area ≤ 8192) := ⟨by have := h2.fits.2.2.2; unfold Lg.area areaOf; omega⟩
  have H1 := Aside0.mk h1
  have HH := Aside0.mk hh
  clear h1 h2 hrd hoff hi hh
  go_enter Try.func57, Try.ntmps57
  go_wp2_with fail
  refine (dk_count d _ _ _ _ HD.out).mono ?_
  rintro e' w' ⟨rfl, rfl⟩
  go_wp2_with fail
  refine (dk_Read d i _ _ _ _ HD.out).mono ?_
  rintro e' w1 ⟨v1, rfl, hR, hb⟩
  rw [HRD.out] at hR
  rw [HRD.out]
  obtain ⟨gb, cb, rfl, _⟩ := Kd.R_form hR (by rw [HLB.out]; decide)
  replace hR : (Kd.int .u8).R 5 w1 w.heap.size (fun _ => True) (.slice (some ⟨gb, 0, none⟩) (sec x.y.E i).length cb) (sec x.y.E i) := hR
  obtain ⟨hcb, hC⟩ := R_C hR
  rw [HLB.out] at hcb hC
  rw [HLB.out]
  obtain ⟨b, hbb⟩ : ∃ b, b = sec x.y.E i := ⟨_, rfl⟩
  have HB1 := Aside0.mk hb
  have hl := HLB.out
  have hh := HH.out
  rw [← hbb] at hC hl hh
  have HC := Aside0.mk hC
  have HL := Aside0.mk hl
  have HLG1 := Aside0.mk (H.out.below hb)
  have HAR : Aside0 (∀ W, Below w1.heap.size w1 W → Calls Try.prog 67 #[.pointer (some ⟨g, 0, none⟩)] W fun e w' => e = .returned (.int .i64 (x.area : Int)) ∧ W = w') := ⟨fun W hW => lg_area g W _ _ _ _ (HLG1.out.below hW)⟩
  have hA := HA.out
  clear hR hb hC hbb HRD HLB HH hge hge2 hc0 H1
  rcases hh with ⟨⟨k, m, n, hw, hm, hn⟩, rfl, rfl⟩ | ⟨⟨k, s, hw, hw8, hw16, hw24, hs⟩, hz0, hz1⟩
  · have HW16 := Aside0.mk (fun W (hW : Below w1.heap.size w1 W) => lg_word k (some ⟨gb, 16, none⟩) 48 (cb - 16) (b.drop 16) n W (Kd.C_below (sec_part HL.out HC.out 16 (by decide)) hW) (by omega) hn)
    have HW0 := Aside0.mk (fun W (hW : Below w1.heap.size w1 W) => lg_word k (some ⟨gb, 0, none⟩) 64 cb b m W (Kd.C_below HC.out hW) hcb hw)
    have t1 : (m != 1734438503) = true := by simpa using hm
    clear hw hn hl
    go_wp2_with fail
    refine (HW16.out _ (Below.refl _ _)).mono ?_
    rintro e' w2 ⟨rfl, ⟨nd, rfl⟩⟩
    go_upto_region 7 with (fail)
    have HQ0 : Aside0 (Below w1.heap.size w1 (w1.drewN nd).drew) := ⟨below_drew (pw_below_drewN (Below.refl _ _) _)⟩
    refine start_ (n := 20) (S := fun w' => True) (ds := []) #[false, false, false, false, false, false, false, false, false, false, false, false, false, false, false, false, false, false, false, false] (by kernel_rfl) rfl rfl trivial (fun hHeld => ?_)
    refine pure_ (i := 0) (N := some 31) (v := ?_) (a' := ?_) #[true, false, false, false, false, false, false, false, false, false, false, false, false, false, false, false, false, false, false, false] rfl rfl (by kernel_rfl) (fun _ _ _ h => h) (Or.inl ⟨by rfl, ?_⟩) ?_ ?_
    rotate_left
    · intro w'
      go_simp
      with_reducible rfl
    rotate_left
    · simp only [Act.put, List.setIfInBounds_toArray, List.set_cons_zero, List.set_cons_succ, i64_w, i32_w]
      rfl
    refine one_ (i := 1) (N := some 32) #[true, true, false, false, false, false, false, false, false, false, false, false, false, false, false, false, false, false, false, false] rfl rfl (by kernel_rfl) (by decide) (fun K hK => ?_)
    refine goes_ Try.func65 (by kernel_rfl) rfl #[.slice (some ⟨gb, 0, none⟩) 64 cb] (by rfl) rfl rfl (by simp only [List.map_toArray, List.map_cons, List.map_nil]; rfl) ?_
    with_reducible refine (HW0.out _ HQ0.out).mono ?_
    rintro e w' ⟨rfl, ⟨m1, rfl⟩⟩
    refine ⟨_, rfl, ?_⟩
    have HQ1 := Aside0.mk (pw_below_drewN HQ0.out m1)
    refine hK.out _ _ (trivial) (fun hHeld => ?_)
    clear hK K
    refine norm_ (a' := ?_) ?_ ?_
    rotate_left
    · show Act.put _ (some 32) _ = _
      simp only [Act.put, List.setIfInBounds_toArray, List.set_cons_zero, List.set_cons_succ, i64_w, i32_w]
      rfl
    refine pure_ (i := 2) (N := some 33) (v := ?_) (a' := ?_) #[true, true, true, false, false, false, false, false, false, false, false, false, false, false, false, false, false, false, false, false] rfl rfl (by kernel_rfl) (fun _ _ _ h => h) (Or.inl ⟨by rfl, ?_⟩) ?_ ?_
    rotate_left
    · intro w'
      go_simp
      with_reducible rfl
    rotate_left
    · simp only [Act.put, List.setIfInBounds_toArray, List.set_cons_zero, List.set_cons_succ, i64_w, i32_w]
      rfl
    refine pure_ (i := 3) (N := some 34) (v := ?_) (a' := ?_) #[true, true, true, true, false, false, false, false, false, false, false, false, false, false, false, false, false, false, false, false] rfl rfl (by kernel_rfl) (fun _ _ _ h => h) (Or.inl ⟨by rfl, ?_⟩) ?_ ?_
    rotate_left
    · intro w'
      go_simp
      with_reducible rfl
    rotate_left
    · simp only [Act.put, List.setIfInBounds_toArray, List.set_cons_zero, List.set_cons_succ, i64_w, i32_w]
      rfl
    refine pure_ (i := 4) (N := some 35) (v := undef) (a' := ?_) #[true, true, true, true, true, false, false, false, false, false, false, false, false, false, false, false, false, false, false, false] rfl rfl (by kernel_rfl) (fun _ _ _ h => h) (Or.inr ⟨by rfl, rfl⟩) ?_ ?_
    rotate_left
    · simp only [Act.put, List.setIfInBounds_toArray, List.set_cons_zero, List.set_cons_succ, i64_w, i32_w]
      rfl
    refine pure_ (i := 5) (N := some 36) (v := undef) (a' := ?_) #[true, true, true, true, true, true, false, false, false, false, false, false, false, false, false, false, false, false, false, false] rfl rfl (by kernel_rfl) (fun _ _ _ h => h) (Or.inr ⟨by rfl, rfl⟩) ?_ ?_
    rotate_left
    · simp only [Act.put, List.setIfInBounds_toArray, List.set_cons_zero, List.set_cons_succ, i64_w, i32_w]
      rfl
    refine pure_ (i := 6) (N := some 37) (v := undef) (a' := ?_) #[true, true, true, true, true, true, true, false, false, false, false, false, false, false, false, false, false, false, false, false] rfl rfl (by kernel_rfl) (fun _ _ _ h => h) (Or.inr ⟨by rfl, rfl⟩) ?_ ?_
    rotate_left
    · simp only [Act.put, List.setIfInBounds_toArray, List.set_cons_zero, List.set_cons_succ, i64_w, i32_w]
      rfl
    refine pure_ (i := 7) (N := some 38) (v := undef) (a' := ?_) #[true, true, true, true, true, true, true, true, false, false, false, false, false, false, false, false, false, false, false, false] rfl rfl (by kernel_rfl) (fun _ _ _ h => h) (Or.inr ⟨by rfl, rfl⟩) ?_ ?_
    rotate_left
    · simp only [Act.put, List.setIfInBounds_toArray, List.set_cons_zero, List.set_cons_succ, i64_w, i32_w]
      rfl
    refine pure_ (i := 8) (N := some 39) (v := undef) (a' := ?_) #[true, true, true, true, true, true, true, true, true, false, false, false, false, false, false, false, false, false, false, false] rfl rfl (by kernel_rfl) (fun _ _ _ h => h) (Or.inr ⟨by rfl, rfl⟩) ?_ ?_
    rotate_left
    · simp only [Act.put, List.setIfInBounds_toArray, List.set_cons_zero, List.set_cons_succ, i64_w, i32_w]
      rfl
    refine pure_ (i := 9) (N := some 40) (v := undef) (a' := ?_) #[true, true, true, true, true, true, true, true, true, true, false, false, false, false, false, false, false, false, false, false] rfl rfl (by kernel_rfl) (fun _ _ _ h => h) (Or.inr ⟨by rfl, rfl⟩) ?_ ?_
    rotate_left
    · simp only [Act.put, List.setIfInBounds_toArray, List.set_cons_zero, List.set_cons_succ, i64_w, i32_w]
      rfl
    refine pure_ (i := 10) (N := some 41) (v := undef) (a' := ?_) #[true, true, true, true, true, true, true, true, true, true, true, false, false, false, false, false, false, false, false, false] rfl rfl (by kernel_rfl) (fun _ _ _ h => h) (Or.inr ⟨by rfl, rfl⟩) ?_ ?_
    rotate_left
    · simp only [Act.put, List.setIfInBounds_toArray, List.set_cons_zero, List.set_cons_succ, i64_w, i32_w]
      rfl
    refine pure_ (i := 11) (N := some 42) (v := ?_) (a' := ?_) #[true, true, true, true, true, true, true, true, true, true, true, true, false, false, false, false, false, false, false, false] rfl rfl (by kernel_rfl) (fun _ _ _ h => h) (Or.inl ⟨by rfl, ?_⟩) ?_ ?_
    rotate_left
    · intro w'
      go_simp
      with_reducible rfl
    rotate_left
    · simp only [Act.put, List.setIfInBounds_toArray, List.set_cons_zero, List.set_cons_succ, i64_w, i32_w]
      rfl
    refine pure_ (i := 12) (N := some 43) (v := ?_) (a' := ?_) #[true, true, true, true, true, true, true, true, true, true, true, true, true, false, false, false, false, false, false, false] rfl rfl (by kernel_rfl) (fun _ _ _ h => h) (Or.inl ⟨by rfl, ?_⟩) ?_ ?_
    rotate_left
    · intro w'
      go_simp
      with_reducible rfl
    rotate_left
    · simp only [Act.put, List.setIfInBounds_toArray, List.set_cons_zero, List.set_cons_succ, i64_w, i32_w]
      rfl
    refine pure_ (i := 13) (N := some 44) (v := undef) (a' := ?_) #[true, true, true, true, true, true, true, true, true, true, true, true, true, true, false, false, false, false, false, false] rfl rfl (by kernel_rfl) (fun _ _ _ h => h) (Or.inr ⟨by rfl, rfl⟩) ?_ ?_
    rotate_left
    · simp only [Act.put, List.setIfInBounds_toArray, List.set_cons_zero, List.set_cons_succ, i64_w, i32_w]
      rfl
    refine pure_ (i := 14) (N := some 45) (v := undef) (a' := ?_) #[true, true, true, true, true, true, true, true, true, true, true, true, true, true, true, false, false, false, false, false] rfl rfl (by kernel_rfl) (fun _ _ _ h => h) (Or.inr ⟨by rfl, rfl⟩) ?_ ?_
    rotate_left
    · simp only [Act.put, List.setIfInBounds_toArray, List.set_cons_zero, List.set_cons_succ, i64_w, i32_w]
      rfl
    refine pure_ (i := 15) (N := some 46) (v := undef) (a' := ?_) #[true, true, true, true, true, true, true, true, true, true, true, true, true, true, true, true, false, false, false, false] rfl rfl (by kernel_rfl) (fun _ _ _ h => h) (Or.inr ⟨by rfl, rfl⟩) ?_ ?_
    rotate_left
    · simp only [Act.put, List.setIfInBounds_toArray, List.set_cons_zero, List.set_cons_succ, i64_w, i32_w]
      rfl
    refine pure_ (i := 16) (N := some 47) (v := undef) (a' := ?_) #[true, true, true, true, true, true, true, true, true, true, true, true, true, true, true, true, true, false, false, false] rfl rfl (by kernel_rfl) (fun _ _ _ h => h) (Or.inr ⟨by rfl, rfl⟩) ?_ ?_
    rotate_left
    · simp only [Act.put, List.setIfInBounds_toArray, List.set_cons_zero, List.set_cons_succ, i64_w, i32_w]
      rfl
    refine pure_ (i := 17) (N := some 48) (v := undef) (a' := ?_) #[true, true, true, true, true, true, true, true, true, true, true, true, true, true, true, true, true, true, false, false] rfl rfl (by kernel_rfl) (fun _ _ _ h => h) (Or.inr ⟨by rfl, rfl⟩) ?_ ?_
    rotate_left
    · simp only [Act.put, List.setIfInBounds_toArray, List.set_cons_zero, List.set_cons_succ, i64_w, i32_w]
      rfl
    refine pure_ (i := 18) (N := some 49) (v := undef) (a' := ?_) #[true, true, true, true, true, true, true, true, true, true, true, true, true, true, true, true, true, true, true, false] rfl rfl (by kernel_rfl) (fun _ _ _ h => h) (Or.inr ⟨by rfl, rfl⟩) ?_ ?_
    rotate_left
    · simp only [Act.put, List.setIfInBounds_toArray, List.set_cons_zero, List.set_cons_succ, i64_w, i32_w]
      rfl
    refine pure_ (i := 19) (N := some 50) (v := ?_) (a' := ?_) #[true, true, true, true, true, true, true, true, true, true, true, true, true, true, true, true, true, true, true, true] rfl rfl (by kernel_rfl) (fun _ _ _ h => h) (Or.inl ⟨by rfl, ?_⟩) ?_ ?_
    rotate_left
    · intro w'
      go_simp
      with_reducible rfl
    rotate_left
    · simp only [Act.put, List.setIfInBounds_toArray, List.set_cons_zero, List.set_cons_succ, i64_w, i32_w]
      rfl
    refine done_ (by kernel_rfl) ?_

    go_wp2
    go_ret3
    exact ⟨rfl, below_step HB1.out (by first | exact HQ1.out | exact pw_below_drewN (Below.refl _ _) _)⟩
  · have HW16 := Aside0.mk (fun W (hW : Below w1.heap.size w1 W) => lg_word k (some ⟨gb, 16, none⟩) 48 (cb - 16) (b.drop 16) sz W (Kd.C_below (sec_part HL.out HC.out 16 (by decide)) hW) (by omega) hw16)
    have HW8 := Aside0.mk (fun W (hW : Below w1.heap.size w1 W) => lg_word k (some ⟨gb, 8, none⟩) 56 (cb - 8) (b.drop 8) nr W (Kd.C_below (sec_part HL.out HC.out 8 (by decide)) hW) (by omega) hw8)
    have HW0 := Aside0.mk (fun W (hW : Below w1.heap.size w1 W) => lg_word k (some ⟨gb, 0, none⟩) 64 cb b 1734438503 W (Kd.C_below HC.out hW) hcb hw)
    have HW24 := Aside0.mk (fun W (hW : Below w1.heap.size w1 W) => lg_word k (some ⟨gb, 24, none⟩) 40 (cb - 24) (b.drop 24) s W (Kd.C_below (sec_part HL.out HC.out 24 (by decide)) hW) (by omega) hw24)
    have HS24 := Aside0.mk (fun W (hW : Below w1.heap.size w1 W) => lg_sum k (some ⟨gb, 0, none⟩) 24 cb (b.take 24) s W (Kd.C_below (sec_head HC.out) hW) (by omega) hs)
    have n24 : (cb = 24) = False := eq_false (by omega)
    have q24 : ((24 : Int) ≤ (cb : Int)) = True := eq_true (by omega)
    have e1 : wrap64 ((x.area : Int) * 64) = (x.area : Int) * 64 := w64 _ (by omega)
    have e2 : IntKind.u64.wrap ((x.area : Int) * 64) = (x.area : Int) * 64 := by show ((x.area : Int) * 64) % 18446744073709551616 = _; omega
    have e3 : decide (sz > (x.area : Int) * 64) = false := decide_eq_false (by omega)
    have e3' : decide ((x.area : Int) * 64 < sz) = false := decide_eq_false (by omega)
    have e4 : wrap64 sz = sz := w64 _ (by omega)
    clear hw hw8 hw16 hw24 hs hl
    go_wp2_with fail
    refine (HW16.out _ (Below.refl _ _)).mono ?_
    rintro e' w2 ⟨rfl, ⟨nd, rfl⟩⟩
    go_upto_region 7 with (fail)
    have HQ0 : Aside0 (Below w1.heap.size w1 (w1.drewN nd).drew) := ⟨below_drew (pw_below_drewN (Below.refl _ _) _)⟩
    refine start_ (n := 20) (S := fun w' => True) (ds := []) #[false, false, false, false, false, false, false, false, false, false, false, false, false, false, false, false, false, false, false, false] (by kernel_rfl) rfl rfl trivial (fun hHeld => ?_)
    refine pure_ (i := 0) (N := some 31) (v := ?_) (a' := ?_) #[true, false, false, false, false, false, false, false, false, false, false, false, false, false, false, false, false, false, false, false] rfl rfl (by kernel_rfl) (fun _ _ _ h => h) (Or.inl ⟨by rfl, ?_⟩) ?_ ?_
    rotate_left
    · intro w'
      go_simp
      with_reducible rfl
    rotate_left
    · simp only [Act.put, List.setIfInBounds_toArray, List.set_cons_zero, List.set_cons_succ, i64_w, i32_w]
      rfl
    refine one_ (i := 1) (N := some 32) #[true, true, false, false, false, false, false, false, false, false, false, false, false, false, false, false, false, false, false, false] rfl rfl (by kernel_rfl) (by decide) (fun K hK => ?_)
    refine goes_ Try.func65 (by kernel_rfl) rfl #[.slice (some ⟨gb, 0, none⟩) 64 cb] (by rfl) rfl rfl (by simp only [List.map_toArray, List.map_cons, List.map_nil]; rfl) ?_
    with_reducible refine (HW0.out _ HQ0.out).mono ?_
    rintro e w' ⟨rfl, ⟨m1, rfl⟩⟩
    refine ⟨_, rfl, ?_⟩
    have HQ1 := Aside0.mk (pw_below_drewN HQ0.out m1)
    refine hK.out _ _ (trivial) (fun hHeld => ?_)
    clear hK K
    refine norm_ (a' := ?_) ?_ ?_
    rotate_left
    · show Act.put _ (some 32) _ = _
      simp only [Act.put, List.setIfInBounds_toArray, List.set_cons_zero, List.set_cons_succ, i64_w, i32_w]
      rfl
    refine pure_ (i := 2) (N := some 33) (v := ?_) (a' := ?_) #[true, true, true, false, false, false, false, false, false, false, false, false, false, false, false, false, false, false, false, false] rfl rfl (by kernel_rfl) (fun _ _ _ h => h) (Or.inl ⟨by rfl, ?_⟩) ?_ ?_
    rotate_left
    · intro w'
      go_simp
      with_reducible rfl
    rotate_left
    · simp only [Act.put, List.setIfInBounds_toArray, List.set_cons_zero, List.set_cons_succ, i64_w, i32_w]
      rfl
    refine pure_ (i := 3) (N := some 34) (v := ?_) (a' := ?_) #[true, true, true, true, false, false, false, false, false, false, false, false, false, false, false, false, false, false, false, false] rfl rfl (by kernel_rfl) (fun _ _ _ h => h) (Or.inl ⟨by rfl, ?_⟩) ?_ ?_
    rotate_left
    · intro w'
      go_simp
      with_reducible rfl
    rotate_left
    · simp only [Act.put, List.setIfInBounds_toArray, List.set_cons_zero, List.set_cons_succ, i64_w, i32_w]
      rfl
    refine pure_ (i := 4) (N := some 35) (v := ?_) (a' := ?_) #[true, true, true, true, true, false, false, false, false, false, false, false, false, false, false, false, false, false, false, false] rfl rfl (by kernel_rfl) (fun _ _ _ h => h) (Or.inl ⟨by rfl, ?_⟩) ?_ ?_
    rotate_left
    · intro w'
      go_simp
      with_reducible rfl
    rotate_left
    · simp only [Act.put, List.setIfInBounds_toArray, List.set_cons_zero, List.set_cons_succ, i64_w, i32_w]
      rfl
    refine pure_ (i := 5) (N := some 36) (v := ?_) (a' := ?_) #[true, true, true, true, true, true, false, false, false, false, false, false, false, false, false, false, false, false, false, false] rfl rfl (by kernel_rfl) (fun _ _ _ h => h) (Or.inl ⟨by rfl, ?_⟩) ?_ ?_
    rotate_left
    · intro w'
      go_simp
      with_reducible rfl
    rotate_left
    · simp only [Act.put, List.setIfInBounds_toArray, List.set_cons_zero, List.set_cons_succ, i64_w, i32_w]
      rfl
    refine pure_ (i := 7) (N := some 38) (v := ?_) (a' := ?_) #[true, true, true, true, true, true, false, true, false, false, false, false, false, false, false, false, false, false, false, false] rfl rfl (by kernel_rfl) (fun _ _ _ h => h) (Or.inl ⟨by rfl, ?_⟩) ?_ ?_
    rotate_left
    · intro w'
      go_simp
      with_reducible rfl
    rotate_left
    · simp only [Act.put, List.setIfInBounds_toArray, List.set_cons_zero, List.set_cons_succ, i64_w, i32_w]
      rfl
    refine pure_ (i := 8) (N := some 39) (v := ?_) (a' := ?_) #[true, true, true, true, true, true, false, true, true, false, false, false, false, false, false, false, false, false, false, false] rfl rfl (by kernel_rfl) (fun _ _ _ h => h) (Or.inl ⟨by rfl, ?_⟩) ?_ ?_
    rotate_left
    · intro w'
      go_simp
      with_reducible rfl
    rotate_left
    · simp only [Act.put, List.setIfInBounds_toArray, List.set_cons_zero, List.set_cons_succ, i64_w, i32_w]
      rfl
    refine one_ (i := 6) (N := some 37) #[true, true, true, true, true, true, true, true, true, false, false, false, false, false, false, false, false, false, false, false] rfl rfl (by kernel_rfl) (by decide) (fun K hK => ?_)
    refine goes_ Try.func65 (by kernel_rfl) rfl #[.slice (some ⟨gb, 24, none⟩) 40 (cb - 24)] (by rfl) rfl rfl (by simp only [List.map_toArray, List.map_cons, List.map_nil]; rfl) ?_
    with_reducible refine (HW24.out _ HQ1.out).mono ?_
    rintro e w' ⟨rfl, ⟨m2, rfl⟩⟩
    refine ⟨_, rfl, ?_⟩
    have HQ2 := Aside0.mk (pw_below_drewN HQ1.out m2)
    refine hK.out _ _ (trivial) (fun hHeld => ?_)
    clear hK K
    refine norm_ (a' := ?_) ?_ ?_
    rotate_left
    · show Act.put _ (some 37) _ = _
      simp only [Act.put, List.setIfInBounds_toArray, List.set_cons_zero, List.set_cons_succ, i64_w, i32_w]
      rfl
    refine one_ (i := 9) (N := some 40) #[true, true, true, true, true, true, true, true, true, true, false, false, false, false, false, false, false, false, false, false] rfl rfl (by kernel_rfl) (by decide) (fun K hK => ?_)
    refine goes_ Try.func66 (by kernel_rfl) rfl #[.slice (some ⟨gb, 0, none⟩) 24 cb] (by rfl) rfl rfl (by simp only [List.map_toArray, List.map_cons, List.map_nil]; rfl) ?_
    with_reducible refine (HS24.out _ HQ2.out).mono ?_
    rintro e w' ⟨rfl, ⟨m3, rfl⟩⟩
    refine ⟨_, rfl, ?_⟩
    have HQ3 := Aside0.mk (pw_below_drewN HQ2.out m3)
    refine hK.out _ _ (trivial) (fun hHeld => ?_)
    clear hK K
    refine norm_ (a' := ?_) ?_ ?_
    rotate_left
    · show Act.put _ (some 40) _ = _
      simp only [Act.put, List.setIfInBounds_toArray, List.set_cons_zero, List.set_cons_succ, i64_w, i32_w]
      rfl
    refine pure_ (i := 10) (N := some 41) (v := ?_) (a' := ?_) #[true, true, true, true, true, true, true, true, true, true, true, false, false, false, false, false, false, false, false, false] rfl rfl (by kernel_rfl) (fun _ _ _ h => h) (Or.inl ⟨by rfl, ?_⟩) ?_ ?_
    rotate_left
    · intro w'
      go_simp
      with_reducible rfl
    rotate_left
    · simp only [Act.put, List.setIfInBounds_toArray, List.set_cons_zero, List.set_cons_succ, i64_w, i32_w]
      rfl
    refine pure_ (i := 11) (N := some 42) (v := ?_) (a' := ?_) #[true, true, true, true, true, true, true, true, true, true, true, true, false, false, false, false, false, false, false, false] rfl rfl (by kernel_rfl) (fun _ _ _ h => h) (Or.inl ⟨by rfl, ?_⟩) ?_ ?_
    rotate_left
    · intro w'
      go_simp
      with_reducible rfl
    rotate_left
    · simp only [Act.put, List.setIfInBounds_toArray, List.set_cons_zero, List.set_cons_succ, i64_w, i32_w]
      rfl
    refine pure_ (i := 12) (N := some 43) (v := ?_) (a' := ?_) #[true, true, true, true, true, true, true, true, true, true, true, true, true, false, false, false, false, false, false, false] rfl rfl (by kernel_rfl) (fun _ _ _ h => h) (Or.inl ⟨by rfl, ?_⟩) ?_ ?_
    rotate_left
    · intro w'
      go_simp
      with_reducible rfl
    rotate_left
    · simp only [Act.put, List.setIfInBounds_toArray, List.set_cons_zero, List.set_cons_succ, i64_w, i32_w]
      rfl
    refine pure_ (i := 13) (N := some 44) (v := ?_) (a' := ?_) #[true, true, true, true, true, true, true, true, true, true, true, true, true, true, false, false, false, false, false, false] rfl rfl (by kernel_rfl) (fun _ _ _ h => h) (Or.inl ⟨by rfl, ?_⟩) ?_ ?_
    rotate_left
    · intro w'
      go_simp
      with_reducible rfl
    rotate_left
    · simp only [Act.put, List.setIfInBounds_toArray, List.set_cons_zero, List.set_cons_succ, i64_w, i32_w]
      rfl
    refine pure_ (i := 14) (N := some 45) (v := ?_) (a' := ?_) #[true, true, true, true, true, true, true, true, true, true, true, true, true, true, true, false, false, false, false, false] rfl rfl (by kernel_rfl) (fun _ _ _ h => h) (Or.inl ⟨by rfl, ?_⟩) ?_ ?_
    rotate_left
    · intro w'
      go_simp
      with_reducible rfl
    rotate_left
    · simp only [Act.put, List.setIfInBounds_toArray, List.set_cons_zero, List.set_cons_succ, i64_w, i32_w]
      rfl
    refine one_ (i := 15) (N := some 46) #[true, true, true, true, true, true, true, true, true, true, true, true, true, true, true, true, false, false, false, false] rfl rfl (by kernel_rfl) (by decide) (fun K hK => ?_)
    refine goes_ Try.func67 (by kernel_rfl) rfl #[.pointer (some ⟨g, 0, none⟩)] (by rfl) rfl rfl (by simp only [List.map_toArray, List.map_cons, List.map_nil]; rfl) ?_
    with_reducible refine (HAR.out _ HQ3.out).mono ?_
    rintro e w' ⟨rfl, rfl⟩
    refine ⟨_, rfl, ?_⟩
    refine hK.out _ _ (trivial) (fun hHeld => ?_)
    clear hK K
    refine norm_ (a' := ?_) ?_ ?_
    rotate_left
    · show Act.put _ (some 46) _ = _
      simp only [Act.put, List.setIfInBounds_toArray, List.set_cons_zero, List.set_cons_succ, i64_w, i32_w]
      rfl
    refine pure_ (i := 16) (N := some 47) (v := ?_) (a' := ?_) #[true, true, true, true, true, true, true, true, true, true, true, true, true, true, true, true, true, false, false, false] rfl rfl (by kernel_rfl) (fun _ _ _ h => h) (Or.inl ⟨by rfl, ?_⟩) ?_ ?_
    rotate_left
    · intro w'
      go_simp
      with_reducible rfl
    rotate_left
    · simp only [Act.put, List.setIfInBounds_toArray, List.set_cons_zero, List.set_cons_succ, i64_w, i32_w]
      rfl
    refine pure_ (i := 17) (N := some 48) (v := ?_) (a' := ?_) #[true, true, true, true, true, true, true, true, true, true, true, true, true, true, true, true, true, true, false, false] rfl rfl (by kernel_rfl) (fun _ _ _ h => h) (Or.inl ⟨by rfl, ?_⟩) ?_ ?_
    rotate_left
    · intro w'
      go_simp
      with_reducible rfl
    rotate_left
    · simp only [Act.put, List.setIfInBounds_toArray, List.set_cons_zero, List.set_cons_succ, i64_w, i32_w]
      rfl
    refine pure_ (i := 18) (N := some 49) (v := ?_) (a' := ?_) #[true, true, true, true, true, true, true, true, true, true, true, true, true, true, true, true, true, true, true, false] rfl rfl (by kernel_rfl) (fun _ _ _ h => h) (Or.inl ⟨by rfl, ?_⟩) ?_ ?_
    rotate_left
    · intro w'
      go_simp
      with_reducible rfl
    rotate_left
    · simp only [Act.put, List.setIfInBounds_toArray, List.set_cons_zero, List.set_cons_succ, i64_w, i32_w]
      rfl
    refine pure_ (i := 19) (N := some 50) (v := ?_) (a' := ?_) #[true, true, true, true, true, true, true, true, true, true, true, true, true, true, true, true, true, true, true, true] rfl rfl (by kernel_rfl) (fun _ _ _ h => h) (Or.inl ⟨by rfl, ?_⟩) ?_ ?_
    rotate_left
    · intro w'
      go_simp
      with_reducible rfl
    rotate_left
    · simp only [Act.put, List.setIfInBounds_toArray, List.set_cons_zero, List.set_cons_succ, i64_w, i32_w]
      rfl
    refine done_ (by kernel_rfl) ?_

    go_wp2_with fail
    refine (HW8.out _ (pw_below_drewN (Below.refl _ _) _)).mono ?_
    rintro e' w3 ⟨rfl, ⟨nd2, rfl⟩⟩
    go_wp2
    go_ret3
    exact ⟨rfl, below_step HB1.out (pw_below_drewN (Below.refl _ _) _)⟩

end Go.Proofs.Ytpkhpfgojhojaaa.PLg

namespace Go.Proofs.Ytpkhpfgojhojaaa.PLg
open Go.RowKit Go.Proofs.YtpkhpfgojhojaaaW.PrintWords Go.Proofs.YtpkhpfgojhojaaaW.PrintLast Go.Proofs.YtpkhpfgojhojaaaW.PrintMore
attribute [local go_sem] max2_int min2_int max_two min_two max_three min_three max_four min_four
set_option linter.unusedVariables false
set_option linter.unusedSimpArgs false
-- FUNCTION: slices.Clone[[][]byte,[]byte]
-- IMPORT: Derived.Test.@N@WOwn
-- IMPORT: Derived.Test.@N@DLbase
set_option maxHeartbeats 4000000 in
set_option maxRecDepth 100000 in
/-- A copy of a list of rows: the rows are the same ones. -/
theorem lg_clone (v : Value) (rs : List (List Int)) (w : World) (base : Nat) (ok : Nat → Prop) (h : Kd.R (Kd.slice 5 (Kd.int .u8)) 30 w base ok v rs) (hbs : base ≤ w.heap.size) (hm : rs.length < 5864062014805) :
    Calls Try.prog 60 #[v] w fun e w' => ∃ v', e = .returned v' ∧ Kd.R (Kd.slice 5 (Kd.int .u8)) 30 w' base (fun k => ok k ∨ w.heap.size ≤ k) v' rs ∧ (∀ k, v'.ownBlock = some k → w.heap.size ≤ k) ∧ Below w.heap.size w w' := by
  obtain ⟨A0, c0, rfl, hc, hrow⟩ := OwnRow.reads h.2
  have HR := Aside0.mk hrow
  have HM := Aside0.mk hm
  have H := Aside0.mk h
  have HBS := Aside0.mk hbs
  have h1 := fun (w : World) (a : Option Addr) (n c n' c' : Nat) => Lib.run_eql_slice_nil (P := Try.prog) w 63 30 a n c n' c' Try.underlying63
  have HN : Aside0 (A0 = none → rs = []) := ⟨fun e => by
    by_cases hz : 0 < rs.length
    · obtain ⟨ad, h, _⟩ := HR.out.2.2 hz
      rw [e] at h; cases h
    · exact List.eq_nil_of_length_eq_zero (by omega)⟩
  clear hrow hm h hbs
  go_enter Try.func60, Try.ntmps60
  cases A0 with
  | none =>
    obtain rfl := HN.out rfl
    go_wp2
    go_ret
    exact ⟨_, rfl, Kd.R_nil _ _ _ _ _, fun k hk => by simp [Value.ownBlock] at hk, Below.refl _ _⟩
  | some ad =>
    have HRW : Aside0 (ReadsRow ((Kd.slice 5 (Kd.int .u8)).M (w.alloc (.cells #[] 30)) base (fun k => (ok k ∧ k < w.heap.size) ∧ some k ≠ (Value.slice (some ad) rs.length c0).ownBlock)) (Kd.slice 5 (Kd.int .u8)).sz (w.alloc (.cells #[] 30)) (some ad) rs.length rs) := ⟨by
      obtain ⟨A', c', e, _, hrow⟩ := OwnRow.reads (Kd.R_alloc (Kd.R_mono (Kd.R_bound H.out) (ok' := fun k => ok k ∧ k < w.heap.size) (fun k hk => ⟨hk.1, hk.2.2.1⟩)) (.cells #[] 30)).2
      cases e
      exact hrow⟩
    have HLT : Aside0 (∀ k, ok k ∧ base ≤ k ∧ k < w.heap.size → k < w.heap.size) := ⟨fun k hk => hk.2.2⟩
    have HO := Aside0.mk (show Kd.R (Kd.slice 5 (Kd.int .u8)) 30 (w.alloc (.cells #[] 30)) base (fun k => ok k ∨ w.heap.size ≤ k) (.slice (some ⟨w.heap.size, 0, none⟩) 0 0) [] from ⟨fun k hk => .inr (by simp [Value.ownBlock] at hk; omega), OwnRow.lit w base (Reps.none _ _) HBS.out (by decide)⟩)
    have HP : Aside0 (∀ k, (ok k ∧ k < w.heap.size) ∧ some k ≠ (Value.slice (some ad) rs.length c0).ownBlock → (ok k ∨ w.heap.size ≤ k) ∧ some k ≠ (Value.slice (some ⟨w.heap.size, 0, none⟩) 0 0).ownBlock) := ⟨fun k hk => ⟨.inl hk.1.1, by have := hk.1.2; simp [Value.ownBlock]; omega⟩⟩
    have HF : Aside0 (∀ k, (w.alloc (.cells #[] 30)).heap.size ≤ k → ok k ∨ w.heap.size ≤ k) := ⟨fun k hk => .inr (by rw [World.size_alloc] at hk; omega)⟩
    have HBB := Aside0.mk ((below_alloc (Below.refl w.heap.size w) (.cells #[] 30)).mono HBS.out)
    have HSS : Aside0 (base ≤ (w.alloc (.cells #[] 30)).heap.size) := ⟨by rw [World.size_alloc]; have := HBS.out; omega⟩
    have HLL : Aside0 ((([] : List (List Int)).length + rs.length) * 24 ≤ 140737488355328) := ⟨by have := HM.out; simp; omega⟩
    go_wp2_with (first | (at_builtin; refine Kd.R_append_rows (Kd.slice 5 (Kd.int .u8)) (w0 := w) base rfl (.tmp 5) (.tmp 6) 63 30 (.slice none 0 0) 24 rfl Try.underlying63 info30 rfl Nat.one_pos (Nat.succ_pos 23) (.slice (some ⟨w.heap.size, 0, none⟩) 0 0) [] rs (some ad) rs.length c0 (fun k => ok k ∨ w.heap.size ≤ k) (fun k => (ok k ∧ k < w.heap.size) ∧ some k ≠ (Value.slice (some ad) rs.length c0).ownBlock) rfl rfl ?aO ?aR (fun _ _ hp => hp) ?aP ?aF ?aB ?aS ?aL ?_; (case aO => exact HO.out); (case aR => exact HRW.out); (case aP => exact HP.out); (case aF => exact HF.out); (case aB => exact HBB.out); (case aS => exact HSS.out); (case aL => exact HLL.out); intro v1 w1 hR hB hg hat; have HR1 := Aside0.mk hR; have HG1 := Aside0.mk hg; have HA1 := Aside0.mk hat; have HB1 := Aside0.mk hB; clear hR hB hg hat))
    go_ret
    refine ⟨v1, rfl, HR1.out, fun k hk => ?_, ⟨HB1.out.os, HB1.out.tape, HB1.out.output, HB1.out.size, fun i hi => ?_⟩⟩
    · rcases HA1.out with h | ⟨b, h, hb⟩
      · rw [h] at hk
        simp [Value.ownBlock] at hk
        omega
      · rw [h] at hk
        injection hk with hk
        rw [World.size_alloc] at hb
        omega
    · exact (HG1.out.block i (by rw [World.size_alloc]; omega) (by simp [Value.ownBlock]; omega)).trans ((below_alloc (Below.refl w.heap.size w) (.cells #[] 30)).block i hi)

end Go.Proofs.Ytpkhpfgojhojaaa.PLg

namespace Go.Proofs.Ytpkhpfgojhojaaa.PLg
open Go.RowKit Go.Proofs.YtpkhpfgojhojaaaW.PrintWords Go.Proofs.YtpkhpfgojhojaaaW.PrintLast Go.Proofs.YtpkhpfgojhojaaaW.PrintMore
attribute [local go_sem] max2_int min2_int max_two min_two max_three min_three max_four min_four
set_option linter.unusedVariables false
set_option linter.unusedSimpArgs false
-- FUNCTION: (*gangway/log.Log).become
-- IMPORT: Derived.Test.@N@WOwn
-- IMPORT: Derived.Test.@N@DAsked
-- IMPORT: Derived.Test.@N@DClone2
def layLen (rs : List (List Int)) : Nat := (rs.map (fun r => 8 + r.length)).sum
def Lg.become (x : Lg) (rs : List (List Int)) : Lg × Int := if x.y.off = true then (x, 103) else if layLen rs > x.area * 64 then (x, 51) else ({ x with rs := rs, fresh := false }, 0)
/-- What may take the records' place, told at an elder world. -/
def LgRows (w : World) (bd g d : Nat) (ok : Nat → Prop) (x : Lg) (okl : Nat → Prop) : Prop := LgAt w bd ok g d x ∧ (∀ k, okl k → k < w.heap.size ∧ k ≠ g) ∧ bd ≤ g ∧
    ∀ (w1 w2 : World) (nr : Int) (fr : Bool) (rs : List (List Int)) (v' : Value), Below w.heap.size w w1 → Kept w1 w2 (fun k => k = g) → w2.heap[g]? = some (.cells #[.pointer (some ⟨d, 0, none⟩), .int .u64 nr, v', .bool fr] 94 (0, 0)) →
      Kd.R (Kd.slice 5 (Kd.int .u8)) 30 w1 bd (fun k => okl k ∨ w.heap.size ≤ k) v' rs → LgAt w2 bd (fun k => ok k ∨ w.heap.size ≤ k) g d ⟨x.y, nr, rs, fr⟩
theorem LgAt.lgRows {w : World} {bd g d : Nat} {ok : Nat → Prop} {x : Lg} (h : LgAt w bd ok g d x) : ∃ okl v, LgRows w bd g d ok x okl ∧ w.heap[g]? = some (.cells #[.pointer (some ⟨d, 0, none⟩), .int .u64 x.nr, v, .bool x.fresh] 94 (0, 0)) ∧ Kd.R (Kd.slice 5 (Kd.int .u8)) 30 w bd okl v x.rs := by
  obtain ⟨okl, v, h1, h2, h3, h4, h5⟩ := h.rows
  exact ⟨okl, v, ⟨h, h3, h4, h5⟩, h1, h2⟩
theorem read0_off {y : Dk} (h : y.Fits) (ho : y.off = true) : y.read 0 = ([], 103) := by
  obtain ⟨h1, h2, h3, h4⟩ := h
  unfold Dk.read
  rw [if_pos ⟨by omega, by omega⟩, if_pos ho]
theorem read0_on {y : Dk} (h : y.Fits) (ho : y.off = false) : y.read 0 = (sec y.E 0, 0) := by
  obtain ⟨h1, h2, h3, h4⟩ := h
  unfold Dk.read
  rw [if_pos ⟨by omega, by omega⟩, if_neg (by rw [ho]; decide)]
  rfl
set_option maxHeartbeats 8000000 in
set_option maxRecDepth 100000 in
theorem log_Log_become.walk (k g : Nat) (v : Value) (rs : List (List Int)) (b : List Int) (w0 w : World) (bd : Nat) (ok okl : Nat → Prop) (d : Nat) (x : Lg) (h : LgRows w0 bd g d ok x okl) (hb : Below w0.heap.size w0 w) (hbd : bd ≤ w0.heap.size) (hR : Kd.R (Kd.slice 5 (Kd.int .u8)) 30 w bd (fun k => okl k ∨ w0.heap.size ≤ k) v rs) (hlay : log_lay.f k rs = some b) (hlen : b.length = layLen rs) (hm : layLen rs ≤ 140737488355327) :
    Calls Try.prog 59 #[.pointer (some ⟨g, 0, none⟩), v] w fun e w' => e = .returned (.int .i64 (x.become rs).2) ∧ LgAt w' bd (fun k => ok k ∨ w0.heap.size ≤ k) g d (x.become rs).1 ∧ Kept w0 w' (fun k => k = g) ∧ Below bd w0 w' := by
  obtain ⟨hL, h3, h4, hput⟩ := h
  have HL := Aside0.mk hL
  have HPUT := Aside0.mk hput
  have HG := Aside0.mk h4
  have HB := Aside0.mk hb
  have HBD := Aside0.mk hbd
  have HR := Aside0.mk hR
  have hA : x.area ≤ 8192 := by obtain ⟨_, q⟩ := hL.disk; have := q.fits.2.2.2; unfold Lg.area areaOf; omega
  obtain ⟨okd, okl', v0, h1, hdk, _⟩ := hL
  obtain ⟨A, c, rfl, hc, hC⟩ := Kd.R_reads hR
  have HC := Aside0.mk hC
  have HCC := Aside0.mk hc
  have HLAY := Aside0.mk hlay
  have HLEN := Aside0.mk hlen
  have H1 := Aside0.mk (blk_below h1 hb)
  have hc0 := (blk_cell H1.out 0).trans rfl
  have HD := Aside0.mk (hdk.below hb)
  have HM := Aside0.mk hm
  have hls := Try.underlying94
  clear hR hput h4 hb hbd hC hlay hlen hdk h1 h3
  by_cases ho : x.y.off = true
  · have HRD := Aside0.mk (read0_off HD.out.fits ho)
    have hbc : x.become rs = (x, 103) := by unfold Lg.become; rw [if_pos ho]
    rw [hbc]
    clear ho hbc
    go_enter Try.func59, Try.ntmps59
    go_wp2_with fail
    refine (dk_Read d 0 _ _ _ _ HD.out).mono ?_
    rintro e' w1 ⟨v1, rfl, hR, hb⟩
    rw [HRD.out]
    have HB1 := Aside0.mk (below_step HB.out hb)
    clear hR hb
    go_wp2
    go_ret
    exact ⟨rfl, (HL.out.below HB1.out).mono (fun k hk => .inl hk), Kept.of_below HB1.out _, HB1.out.mono HBD.out⟩
  · have ho' : x.y.off = false := by simpa using ho
    have HRD := Aside0.mk (read0_on HD.out.fits ho')
    have hnd : (x.become rs = (x, 51) ∧ layLen rs > x.area * 64) ∨ (x.become rs = ({ x with rs := rs, fresh := false }, 0) ∧ ¬ layLen rs > x.area * 64) := by
      unfold Lg.become
      rw [if_neg ho]
      by_cases hbig : layLen rs > x.area * 64
      · rw [if_pos hbig]; exact .inl ⟨rfl, hbig⟩
      · rw [if_neg hbig]; exact .inr ⟨rfl, hbig⟩
    rcases hnd with ⟨hnd, hbig⟩ | ⟨hnd, hbig⟩
    all_goals
      rw [hnd]
      have HBIG := Aside0.mk hbig
      clear hnd hbig
      have e1 : wrap64 ((x.area : Int) * 64) = (x.area : Int) * 64 := w64 _ (by omega)
      clear ho ho'
      go_enter Try.func59, Try.ntmps59
      go_wp2_with fail
      refine (dk_Read d 0 _ _ _ _ HD.out).mono ?_
      rintro e' w1 ⟨v1, rfl, hR, hb⟩
      rw [HRD.out]
      have HB1 := Aside0.mk (below_step HB.out hb)
      have HC1 := Aside0.mk (Kd.C_below HC.out hb)
      have HR1 := Aside0.mk (Kd.R_below HR.out hb)
      have H11 := Aside0.mk (blk_below H1.out hb)
      clear hR hb hc0
      go_wp2_with fail
      refine (log_lay.calls k A c rs b _ HC1.out HCC.out HLAY.out).mono ?_
      rintro e' w2 ⟨v2, rfl, hR, hb⟩
      obtain ⟨A2, c2, rfl⟩ := Kd.R_slice hR
      have HB2 := Aside0.mk (below_step HB1.out hb)
      have HR2 := Aside0.mk (Kd.R_below HR1.out hb)
      have H12 := Aside0.mk (blk_below H11.out hb)
      have hlb : b.length = layLen rs := HLEN.out
      clear hR hb
      rw [hlb]
      clear hlb
      go_wp2_with fail
      refine (lg_area g _ _ _ _ _ (HL.out.below HB2.out)).mono ?_
      rintro e' w' ⟨rfl, rfl⟩
      have hc2 := (blk_cell H12.out 2).trans rfl
      have hc3 := (blk_cell H12.out 3).trans rfl
      have hf2 := blk_frozen H12.out 2
      have hf3 := blk_frozen H12.out 3
      have hmm := HM.out
    · have t1 : decide ((layLen rs : Int) > (x.area : Int) * 64) = true := decide_eq_true (by have := HBIG.out; omega)
      have t2 : decide ((x.area : Int) * 64 < (layLen rs : Int)) = true := decide_eq_true (by have := HBIG.out; omega)
      go_wp2
      go_ret
      exact ⟨rfl, (HL.out.below HB2.out).mono (fun k hk => .inl hk), Kept.of_below HB2.out _, HB2.out.mono HBD.out⟩
    · have t1 : decide ((layLen rs : Int) > (x.area : Int) * 64) = false := decide_eq_false (by have := HBIG.out; omega)
      have t2 : decide ((x.area : Int) * 64 < (layLen rs : Int)) = false := decide_eq_false (by have := HBIG.out; omega)
      go_wp2
      go_ret
      have hk : Kept w2 ((w2.setCell ⟨g, 2, none⟩ (.slice A rs.length c)).setCell ⟨g, 3, none⟩ (.bool false)) (fun k => k = g) := ((Kept.refl w2 (fun k => k = g)).setCell (p := ⟨g, 2, none⟩) (.inl rfl) _).setCell (p := ⟨g, 3, none⟩) (.inl rfl) _
      exact ⟨rfl, HPUT.out _ _ _ _ _ _ HB2.out hk (blk_set (blk_set H12.out 2 _) 3 _) HR2.out, (Kept.of_below HB2.out _).then_ hk (fun k hk => .inl hk), (((HB2.out.mono HBD.out).setCell (p := ⟨g, 2, none⟩) HG.out _).setCell (p := ⟨g, 3, none⟩) HG.out _)⟩

end Go.Proofs.Ytpkhpfgojhojaaa.PLg

namespace Go.Proofs.Ytpkhpfgojhojaaa.PLg
open Go.RowKit Go.Proofs.YtpkhpfgojhojaaaW.PrintWords Go.Proofs.YtpkhpfgojhojaaaW.PrintLast Go.Proofs.YtpkhpfgojhojaaaW.PrintMore
attribute [local go_sem] max2_int min2_int max_two min_two max_three min_three max_four min_four
set_option linter.unusedVariables false
set_option linter.unusedSimpArgs false
-- IMPORT: Derived.Test.@N@WOwn
-- IMPORT: Derived.Test.@N@DWords
/-- make([]byte, m), with the block's cells under one name. -/
theorem mk_zero (m : Nat) (M : Int) (hM : M = (m : Int)) (hm : m ≤ 281474976710656) : ∃ z : List Int, z = List.replicate m 0 ∧ (∀ W : World, (Instr.makeSlice 30 (.int .i64 M) (.int .i64 M)).run Try.prog W = .ok (.slice (some ⟨W.heap.size, 0, none⟩) m m) (W.alloc (.cells (nums .u8 z).toArray 5))) ∧
    ∀ W : World, (Kd.int .u8).R 5 (W.alloc (.cells (nums .u8 z).toArray 5)) W.heap.size (fun _ => True) (.slice (some ⟨W.heap.size, 0, none⟩) m m) z := by
  refine ⟨_, rfl, fun W => ?_, fun W => ?_⟩
  · rw [hM, print_make (P := Try.prog) 30 5 .u8 1 Try.underlying30 info5 (by decide) m (by omega) W, made_nums]
  · have := R_of_blk (xs := List.replicate m (0 : Int)) (k := .u8) (blk_new W (.cells (nums .u8 (List.replicate m (0 : Int))).toArray 5)) (Nat.le_refl _) (by rw [List.length_replicate]; omega)
    rw [List.length_replicate] at this
    exact this
end Go.Proofs.Ytpkhpfgojhojaaa.PLg

namespace Go.Proofs.Ytpkhpfgojhojaaa.PLg
open Go.RowKit Go.Proofs.YtpkhpfgojhojaaaW.PrintWords Go.Proofs.YtpkhpfgojhojaaaW.PrintLast Go.Proofs.YtpkhpfgojhojaaaW.PrintMore
attribute [local go_sem] max2_int min2_int max_two min_two max_three min_three max_four min_four
set_option linter.unusedVariables false
set_option linter.unusedSimpArgs false
-- IMPORT: Derived.Test.@N@WOwn
-- IMPORT: Derived.Test.@N@DCopyrow
/-! ### The built-in copy into a row of the call's own, from a row that may be longer. -/
theorem copy_run_min {P : Program} {w : World} {base g n c e sLen dLen dCap sCap : Nat} {k : IntKind} {ok : Nat → Prop} {xs ys : List Int} {sp : Option Addr} (dT sT ty : TypeId) (hu : P.underlying dT = some (.slice e)) (hsz : (P.info? e).map (·.size) = some 1)
    (hR : (Kd.int k).R e w base ok (.slice (some ⟨g, 0, none⟩) n c) xs) (hy : Kd.C (Kd.int k) w sp sLen ys) (hp : 0 < sLen) (hf : dLen ≤ n) :
    ∃ w', (Builtin.copy_ #[dT, sT] ty #[.slice (some ⟨g, 0, none⟩) dLen dCap, .slice sp sLen sCap]).run P w = .ok (goInt ((min sLen dLen : Nat) : Int)) w' ∧ (Kd.int k).R e w' base ok (.slice (some ⟨g, 0, none⟩) n c) (splice xs 0 (ys.take dLen)) ∧ w.grownBy w' (some g) := by
  obtain ⟨cur, hcur, hcs⟩ := R_cur hR
  have hn : n = xs.length := (Kd.R_reads' hR).1
  have hl : ys.length = sLen := hy.1
  have hcl : cur.toList.length = cur.size := Array.length_toList
  obtain ⟨ad, rfl, hc⟩ := hy.2.2 hp
  have hnl : (nums k (ys.take dLen)).length = (ys.take dLen).length := nums_length _ _
  have hml : (ys.take dLen).length = min sLen dLen := by rw [List.length_take, hl]; exact Nat.min_comm _ _
  have hrun := run_copy_row (P := P) w dT sT ty e g 0 dLen dCap ad sLen sCap cur e (nums k (ys.take dLen)) hu hsz hcur (by rw [hnl, hml]) (fun j v hj => by
    have hj2 : j < (ys.take dLen).length := by
      have := (List.getElem?_eq_some_iff.1 hj).1
      rwa [hnl] at this
    have hj3 : j < ys.length := by rw [List.length_take] at hj2; omega
    obtain ⟨q, hql, hqK, hqc⟩ := hc j ys[j] (List.getElem?_eq_getElem hj3)
    have hqK' : q = [.int k ys[j]] := hqK
    subst hqK'
    have h0 := hqc 0 (.int k ys[j]) rfl
    have e1 : (nums k (ys.take dLen))[j]? = some (.int k ys[j]) := by unfold nums; rw [List.getElem?_map, List.getElem?_eq_getElem hj2, List.getElem_take]; rfl
    rw [e1] at hj
    cases hj
    simpa [Kd.int, Kd.scalar] using h0) (by omega) (fun v hv => by
      simp only [nums, List.mem_map] at hv
      obtain ⟨q, _, rfl⟩ := hv
      rfl)
  rw [hnl, hml] at hrun
  refine ⟨_, hrun, R_splice hR hcur (by rw [hml]; omega) _ ?_, grown_setRow _ _ _⟩
  rw [setRow_heap w g cur _ e (0, 0) hcur]
  unfold splice
  rw [hnl, hml, List.append_assoc]
end Go.Proofs.Ytpkhpfgojhojaaa.PLg

namespace Go.Proofs.Ytpkhpfgojhojaaa.PLg
open Go.RowKit Go.Proofs.YtpkhpfgojhojaaaW.PrintWords Go.Proofs.YtpkhpfgojhojaaaW.PrintLast Go.Proofs.YtpkhpfgojhojaaaW.PrintMore
attribute [local go_sem] max2_int min2_int max_two min_two max_three min_three max_four min_four   -- for this text's walks alone
set_option linter.unusedVariables false
set_option linter.unusedSimpArgs false

/-! ### log_own: function 63 -/
def log_own.l0 : Nat → List (List Int) → List (List Int) → Int → Int → Option ((List (List Int)))
  | 0, _, _, _, _ => none
  | k + 1, x2, x5, x6, x7 => if x7 < x6 then (if 0 ≤ x7 then (if x7 < (x5.length : Int) then ((some (([] : List Int) : List Int)).bind fun y113 => (if y113.length + (rd_L2 x5 x7).length < 140737488355328 then (if x2.length < 5864062014805 then (log_own.l0 k (x2 ++ [(y113 ++ (rd_L2 x5 x7))]) x5 x6 (wrap64 (x7 + 1))) else (none)) else (none))) else (none)) else (none)) else (some x2)
def log_own.f (k : Nat) (l0 : List (List Int)) : Option ((List (List Int))) := log_own.l0 k ([] : List (List Int)) l0 (l0.length : Int) 0
theorem log_own.mono_l : ∀ k, (∀ y0 y1 y2 y3, LeO (log_own.l0 k y0 y1 y2 y3) (log_own.l0 (k + 1) y0 y1 y2 y3))
  | 0 => fun _ _ _ _ r h => by simp [log_own.l0] at h
  | k + 1 => by
    have ih0 := log_own.mono_l k
    · intro y0 y1 y2 y3
      unfold log_own.l0
      repeat' first
      | (with_reducible exact ih0 _ _ _ _)
      | (with_reducible exact LeO.refl _)
      | (with_reducible exact LeO.none _)
      | (with_reducible refine LeO.ite ?_ ?_)
      | (with_reducible refine LeO.bind ?_ (fun _ => ?_))
      | exact ih0 _ _ _ _
      | exact LeO.none _
      | refine LeO.ite ?_ ?_
      | refine LeO.bind ?_ (fun _ => ?_)
theorem log_own.mono : ∀ a0 k, LeO (log_own.f k a0) (log_own.f (k + 1) a0) := by
  intro a0 k
  have ih0 := log_own.mono_l k
  unfold log_own.f
  repeat' first
      | (with_reducible exact ih0 _ _ _ _)
      | (with_reducible exact LeO.refl _)
      | (with_reducible exact LeO.none _)
      | (with_reducible refine LeO.ite ?_ ?_)
      | (with_reducible refine LeO.bind ?_ (fun _ => ?_))
      | exact ih0 _ _ _ _
      | exact LeO.none _
      | refine LeO.ite ?_ ?_
      | refine LeO.bind ?_ (fun _ => ?_)
set_option maxHeartbeats 8000000 in
set_option maxRecDepth 100000 in
theorem log_own.calls (k : Nat) (A0 : Option Addr) (c0 : Nat) (l0 : List (List Int)) (r : List (List Int)) (w : World) (hr0 : Kd.C (Kd.slice 5 (Kd.int .u8)) w A0 l0.length l0) (hc0 : l0.length ≤ c0) (h : log_own.f k l0 = some r) :
    Calls Try.prog 63 #[.slice A0 l0.length c0] w fun e w' => ∃ v0_ : Value, e = .returned (v0_) ∧ Kd.S (Kd.slice 5 (Kd.int .u8)) 30 w' w.heap.size (fun _ => True) v0_ r ∧ Below w.heap.size w w' := by
  have HR0 := Aside0.mk hr0
  have HC0 := Aside0.mk hc0
  clear hr0 hc0
  have HB := Aside0.mk (Below.refl w.heap.size w)
  have H : (log_own.l0 k ([] : List (List Int)) l0 (l0.length : Int) 0) = some r := h
  clear h
  have H' := Aside0.mk H
  clear H
  go_enter Try.func63, Try.ntmps63
  go_wp2
  go_loopg [2, 7] k (fun kq v2 v7 w' => ∃ (x2_1 : List (List Int)) (x7_1 : Int), v7 = .int .i64 x7_1 ∧ Aside0 (log_own.l0 kq x2_1 l0 (l0.length : Int) x7_1 = some r) ∧ Aside0 (kq ≤ k) ∧ Aside0 (Kd.S (Kd.slice 5 (Kd.int .u8)) 30 w' w.heap.size (fun _ => True) v2 x2_1) ∧ Aside0 (Below w.heap.size w w'))
  case atStart => exact ⟨(([] : List (List Int))), (0), (by first | rfl | (simp; done) | (simp [*]; done)), H', ⟨Nat.le_refl _⟩, ⟨by first | exact Kd.S_nil _ _ _ _ _ | exact Kd.N_nil _ _ _ _ _ | exact Kd.V_nil _ _ _ _ _ | exact Kd.Q_nil _ _ _ _ _ | exact Kd.R_nil _ _ _ _ _⟩, ⟨by repeat (first | (with_reducible first | exact HB.out | apply below_alloc | apply pw_below_drewN | apply below_drew1) | exact HB.out)⟩⟩
  case round =>
    clear H'
    obtain ⟨x2_1, x7_1, rfl, HA, HK1, HO_2, HB⟩ := hrel
    cases gk with
    | zero => exact absurd HA.out (by simp [log_own.l0])
    | succ k1 =>
      have H := HA.out
      clear HA
      simp only [log_own.l0] at H
      by_cases c2 : x7_1 < (l0.length : Int)
      · rw [if_pos c2] at H
        have c2b0 : decide (x7_1 < (l0.length : Int)) = true := decide_eq_true c2
        clear c2
        by_cases c3 : 0 ≤ x7_1
        · rw [if_pos c3] at H
          have c3b0 : decide (0 ≤ x7_1) = true := decide_eq_true c3
          clear c3
          by_cases c4 : x7_1 < (l0.length : Int)
          · rw [if_pos c4] at H
            have c4b0 : decide (x7_1 < (l0.length : Int)) = true := decide_eq_true c4
            clear c4
            obtain ⟨y113, hy113⟩ : ∃ y_ : List Int, y_ = (([] : List Int)) := ⟨_, rfl⟩
            replace H : (if y113.length + (rd_L2 l0 x7_1).length < 140737488355328 then (if x2_1.length < 5864062014805 then (log_own.l0 k1 (x2_1 ++ [(y113 ++ (rd_L2 l0 x7_1))]) l0 (l0.length : Int) (wrap64 (x7_1 + 1))) else (none)) else (none)) = some r := by first | (rw [hy113]; with_reducible exact H) | (have H2_ := (Option.bind_some _ _).symm.trans H; rw [hy113]; with_reducible exact H2_) | (have H2_ := (Option.bind_some _ _).symm.trans H; with_reducible exact H2_) | with_reducible exact H | (rw [hy113]; exact H) | exact H
            have Ny113 := Aside0.mk hy113
            clear hy113
            by_cases c5 : y113.length + (rd_L2 l0 x7_1).length < 140737488355328
            · rw [if_pos c5] at H
              have LMc5 := Aside0.mk c5
              clear c5
              obtain ⟨y116, hy116⟩ : ∃ y_ : List Int, y_ = (y113 ++ (rd_L2 l0 x7_1)) := ⟨_, rfl⟩
              replace H : (if x2_1.length < 5864062014805 then (log_own.l0 k1 (x2_1 ++ [y116]) l0 (l0.length : Int) (wrap64 (x7_1 + 1))) else (none)) = some r := by first | (rw [hy116]; with_reducible exact H) | (have H2_ := (Option.bind_some _ _).symm.trans H; rw [hy116]; with_reducible exact H2_) | (have H2_ := (Option.bind_some _ _).symm.trans H; with_reducible exact H2_) | with_reducible exact H | (rw [hy116]; exact H) | exact H
              have Ny116 := Aside0.mk hy116
              clear hy116
              by_cases c6 : x2_1.length < 5864062014805
              · rw [if_pos c6] at H
                have LMc6 := Aside0.mk c6
                clear c6
                obtain ⟨y119, hy119⟩ : ∃ y_ : List (List Int), y_ = (x2_1 ++ [y116]) := ⟨_, rfl⟩
                replace H : (log_own.l0 k1 y119 l0 (l0.length : Int) (wrap64 (x7_1 + 1))) = some r := by first | (rw [hy119]; with_reducible exact H) | (have H2_ := (Option.bind_some _ _).symm.trans H; rw [hy119]; with_reducible exact H2_) | (have H2_ := (Option.bind_some _ _).symm.trans H; with_reducible exact H2_) | with_reducible exact H | (rw [hy119]; exact H) | exact H
                have Ny119 := Aside0.mk hy119
                clear hy119
                have H' := Aside0.mk H
                clear H
                have p112 : 0 ≤ (x7_1 : Int) := of_decide_eq_true (by first | (with_reducible assumption) | assumption)
                have q112 : x7_1 < (l0.length : Int) := of_decide_eq_true (by first | (with_reducible assumption) | assumption)
                obtain ⟨ad112, A112_0, c112_0, e112, hx112_0, hl112_0, hi112_0⟩ := at_L2 HR0.out x7_1 p112 q112
                cases e112
                replace hx112_0 := (HB.out.cell (World.block_lt_of_cell? w _ hx112_0)).trans hx112_0
                have HR112_0 := Aside0.mk hi112_0
                have HC112_0 := Aside0.mk hl112_0
                clear hi112_0 hl112_0
                replace p112 := eq_true p112
                replace q112 := eq_true q112
                go_wp2_with (first | ((with_reducible refine gate_dst (N := 12) rfl ?_); refine Kd.R_lit (Kd.int .u8) _ 5 ?hg (N := 12) ?hd (xs := ([] : List Int)) (inner := []) (ok := fun _ => True) (okp := fun _ => True) ?hr ?hp (fun _ hk => hk) trivial (Below.refl _ _) (Nat.le_refl _) (by simp) ?_; (case hd => rfl); (case hg => rfl); (case hr => first | (go_simp; done) | (go_simp; rfl)); (case hp => exact (Reps.none _ _)); intro v114 w7 ho8 hb hg_ hnew_; clear hg_ hnew_; (first | rw [← Ny113.out] at ho8 | (simp only [Int.reduceToNat] at ho8; rw [← Ny113.out] at ho8)); have n0_ := Aside0.mk (Kd.S_elder' (by (with_reducible repeat (first | apply Kd.S_alloc | apply Kd.S_drewN | apply Kd.S_drew)); exact HO_2.out) (Kd.R_base ho8) hb); have n1_ := Aside0.mk (Kd.R_lower ho8 (below_size (by repeat (first | (with_reducible first | exact HB.out | apply below_alloc | apply pw_below_drewN | apply below_drew1) | exact HB.out)))); have n2_ := Aside0.mk (below_step (by repeat (first | (with_reducible first | exact HB.out | apply below_alloc | apply pw_below_drewN | apply below_drew1) | exact HB.out)) hb); clear HO_2; clear HB; have HO_2 := n0_; have HO115 := n1_; have HB := n2_; clear n0_ n1_ n2_; clear hb ho8) | ((with_reducible refine gate_builtin (b := .append) (xs := #[.tmp 12, .tmp 13]) rfl ?_); at_builtin; refine Kd.R_append_rows (Kd.int .u8) (w0 := w) w.heap.size rfl (.tmp 12) (.tmp 13) 30 5 (.int .u8 0) 1 rfl Try.underlying30 info5 rfl (by decide) (by omega) v114 y113 (rd_L2 l0 x7_1) _ _ _ (fun _ => True) (fun _ => False) rfl rfl ?aO ?aR (fun _ _ h => h) (fun _ h => h.elim) ?aF ?aB ?aS ?aL ?_; (case aR => repeat (first | exact (Kd.C_below HR112_0.out HB.out) | (with_reducible refine Kd.C_alloc ?_ _) | (with_reducible refine Kd.C_drewN ?_ _) | (with_reducible refine Kd.C_drew ?_))); (case aB => exact (by repeat (first | (with_reducible first | exact HB.out | apply below_alloc | apply pw_below_drewN | apply below_drew1) | exact HB.out))); (case aF => exact (fun _ _ => trivial)); (case aO => exact (by (with_reducible repeat (first | apply Kd.R_alloc | apply Kd.R_drewN | apply Kd.R_drew)); exact HO115.out)); (case aS => exact (below_size (by repeat (first | (with_reducible first | exact HB.out | apply below_alloc | apply pw_below_drewN | apply below_drew1) | exact HB.out)))); (case aL => have := LMc5.out; omega); intro v117 w9 ho hb hg hat; rw [← Ny116.out] at ho; have n0_ := Aside0.mk (Kd.S_after (ok := (fun _ => True)) (by (with_reducible repeat (first | apply Kd.S_alloc | apply Kd.S_drewN | apply Kd.S_drew)); exact HO_2.out) hg hat); have n1_ := Aside0.mk (hb); have n2_ := Aside0.mk (ho); clear HO_2; clear HB; clear HO115; have HO_2 := n0_; have HB := n1_; have HO118 := n2_; clear n0_ n1_ n2_; clear ho hb hg hat; obtain ⟨Ao11, co11, eo11⟩ := Kd.R_slice HO118.out; subst eo11) | ((with_reducible refine gate_builtin (b := .append) (xs := #[.tmp 11, .tmp 15]) rfl ?_); at_builtin; refine Kd.S_append (Kd.slice 5 (Kd.int .u8)) (w0 := w) w.heap.size rfl (.tmp 11) (.tmp 15) 63 30 (.slice none 0 0) 24 rfl Try.underlying63 info30 rfl (by decide) (by omega) u2 x2_1 y116 [.slice Ao11 y116.length co11] (fun _ => True) (fun k_ => some k_ = (.slice Ao11 y116.length co11 : Value).ownBlock) rfl rfl ?aP (fun k_ hk_ => ((Kd.R_mono (ok' := fun k_ => ((fun _ => True)) k_ ∧ some k_ ≠ (u2 : Value).ownBlock) (Kd.R_apart' (HO118.out) (Kd.S_typed HO_2.out) (by decide)) (fun k_ hk => ⟨trivial, hk.2⟩))).1 k_ hk_.symm) ?aF ?aO ?aB ?aS ?aL ?_; (case aP => exact Kd.M_row (Kd.R_mono (Kd.R_tight rfl (Kd.R_mono (ok' := fun k_ => ((fun _ => True)) k_ ∧ some k_ ≠ (u2 : Value).ownBlock) (Kd.R_apart' (HO118.out) (Kd.S_typed HO_2.out) (by decide)) (fun k_ hk => ⟨trivial, hk.2⟩))) (fun _ h_ => h_))); (case aB => exact (by repeat (first | (with_reducible first | exact HB.out | apply below_alloc | apply pw_below_drewN | apply below_drew1) | exact HB.out))); (case aF => exact (fun _ _ => trivial)); (case aO => exact (by (with_reducible repeat (first | apply Kd.S_alloc | apply Kd.S_drewN | apply Kd.S_drew)); exact Kd.S_mono HO_2.out (fun k_ hk => ⟨trivial, fun e_ => hk.2 e_⟩))); (case aS => exact (below_size (by repeat (first | (with_reducible first | exact HB.out | apply below_alloc | apply pw_below_drewN | apply below_drew1) | exact HB.out)))); (case aL => have := LMc6.out; omega); intro v120 w10 ho hb hg hat; rw [← Ny119.out] at ho; have n0_ := Aside0.mk (hb); have n1_ := Aside0.mk (ho); clear HB; clear HO_2; clear HO118; have HB := n0_; have HO121 := n1_; clear n0_ n1_; clear ho hb hg hat))
                go_roundg k1
                case measure => have := HK1.out; omega
                case rel => exact ⟨(y119), (wrap64 (x7_1 + 1)), (by first | rfl | (simp; done) | (simp [*]; done)), H', ⟨by have := HK1.out; omega⟩, ⟨by (with_reducible repeat (first | apply Kd.S_alloc | apply Kd.S_drewN | apply Kd.S_drew)); exact HO121.out⟩, ⟨by repeat (first | (with_reducible first | exact HB.out | apply below_alloc | apply pw_below_drewN | apply below_drew1) | exact HB.out)⟩⟩
              · rw [if_neg c6] at H
                exact absurd H (by simp)
            · rw [if_neg c5] at H
              exact absurd H (by simp)
          · rw [if_neg c4] at H
            exact absurd H (by simp)
        · rw [if_neg c3] at H
          exact absurd H (by simp)
      · rw [if_neg c2] at H
        have c2b0 : decide (x7_1 < (l0.length : Int)) = false := decide_eq_false c2
        clear c2
        obtain rfl := Option.some.inj H
        go_wp2
        go_ret
        exact ⟨_, by first | rfl | (simp [errW_none, errW_some] <;> rfl) | (simp [*, errW_none, errW_some] <;> rfl), by (with_reducible repeat (first | apply Kd.S_alloc | apply Kd.S_drewN | apply Kd.S_drew)); exact HO_2.out, by repeat (first | (with_reducible first | exact HB.out | apply below_alloc | apply pw_below_drewN | apply below_drew1) | exact HB.out)⟩

end Go.Proofs.Ytpkhpfgojhojaaa.PLg

namespace Go.Proofs.Ytpkhpfgojhojaaa.PLg
open Go.RowKit Go.Proofs.YtpkhpfgojhojaaaW.PrintWords Go.Proofs.YtpkhpfgojhojaaaW.PrintLast Go.Proofs.YtpkhpfgojhojaaaW.PrintMore
attribute [local go_sem] max2_int min2_int max_two min_two max_three min_three max_four min_four
set_option linter.unusedVariables false
set_option linter.unusedSimpArgs false
-- IMPORT: Derived.Test.@N@WOwn
-- IMPORT: Derived.Test.@N@DBecome
/-- What the plain laws tell of a list of records: laid it has these bytes, and a copy is itself. -/
def Lays (rs : List (List Int)) (b : List Int) : Prop := (∃ k, log_lay.f k rs = some b) ∧ (∃ k, log_own.f k rs = some rs) ∧ b.length = layLen rs ∧ layLen rs ≤ 1000000
set_option maxHeartbeats 4000000 in
set_option maxRecDepth 100000 in
theorem lg_Records (g : Nat) (w : World) (bd : Nat) (ok : Nat → Prop) (d : Nat) (x : Lg) (b : List Int) (h : LgAt w bd ok g d x) (hL : Lays x.rs b) :
    Calls Try.prog 47 #[.pointer (some ⟨g, 0, none⟩)] w fun e w' => ∃ v, e = .returned v ∧ Kd.S (Kd.slice 5 (Kd.int .u8)) 30 w' w.heap.size (fun _ => True) v x.rs ∧ Below w.heap.size w w' := by
  obtain ⟨_, ⟨k, hk⟩, _⟩ := hL
  obtain ⟨okl, v, _, h1, hR⟩ := h.lgRows
  obtain ⟨A, c, rfl, hc, hC⟩ := Kd.R_reads hR
  have HC := Aside0.mk hC
  have HK := Aside0.mk hk
  have HCC := Aside0.mk hc
  have hc2 := (blk_cell h1 2).trans rfl
  have hls := Try.underlying94
  clear hR hC hk h1 h
  go_enter Try.func47, Try.ntmps47
  go_wp2_with fail
  refine (log_own.calls k A c x.rs x.rs _ HC.out HCC.out HK.out).mono ?_
  rintro e' w1 ⟨v1, rfl, hS, hb⟩
  have HS := Aside0.mk hS
  have HB := Aside0.mk hb
  obtain ⟨A1, c1, rfl⟩ := Kd.S_slice hS
  clear hS hb
  go_wp2
  go_ret
  exact ⟨_, rfl, HS.out, HB.out⟩
set_option maxHeartbeats 4000000 in
set_option maxRecDepth 100000 in
theorem lg_Replace (g : Nat) (A : Option Addr) (c : Nat) (rs : List (List Int)) (w : World) (bd : Nat) (ok : Nat → Prop) (d : Nat) (x : Lg) (b : List Int) (h : LgAt w bd ok g d x) (hbd : bd ≤ w.heap.size) (hC : Kd.C (Kd.slice 5 (Kd.int .u8)) w A rs.length rs) (hc : rs.length ≤ c) (hL : Lays rs b) :
    Calls Try.prog 43 #[.pointer (some ⟨g, 0, none⟩), .slice A rs.length c] w fun e w' => e = .returned (.int .i64 (x.become rs).2) ∧ LgAt w' bd (fun k => ok k ∨ w.heap.size ≤ k) g d (x.become rs).1 ∧ Kept w w' (fun k => k = g) ∧ Below bd w w' := by
  obtain ⟨⟨k1, hk1⟩, ⟨k, hk⟩, hlen, hm⟩ := hL
  obtain ⟨okl, v, hr, _, _⟩ := h.lgRows
  have HC := Aside0.mk hC
  have HK := Aside0.mk hk
  have HCC := Aside0.mk hc
  have HR := Aside0.mk hr
  have HLA := Aside0.mk hk1
  have HLEN := Aside0.mk hlen
  have HM := Aside0.mk hm
  have HBD := Aside0.mk hbd
  have hls := Try.underlying94
  clear hC hk h hr hk1 hlen hm hbd
  go_enter Try.func43, Try.ntmps43
  go_wp2_with fail
  refine (log_own.calls k A c rs rs _ HC.out HCC.out HK.out).mono ?_
  rintro e' w1 ⟨v1, rfl, hS, hb⟩
  have HS := Aside0.mk (Kd.R_lower (Kd.R_mono (Kd.R_bound (Kd.S_R hS)) (ok' := fun k => okl k ∨ w.heap.size ≤ k) (fun k hk => .inr hk.2.1)) HBD.out)
  have HB := Aside0.mk hb
  obtain ⟨A1, c1, rfl⟩ := Kd.S_slice hS
  clear hS hb
  go_wp2_with fail
  refine (log_Log_become.walk k1 g _ rs b w _ bd ok okl d x HR.out HB.out HBD.out HS.out HLA.out HLEN.out (by have := HM.out; omega)).mono ?_
  rintro e' w2 ⟨rfl, hl, hk, hb⟩
  have HL2 := Aside0.mk hl
  have HK2 := Aside0.mk hk
  have HB2 := Aside0.mk hb
  clear hl hk hb
  go_wp2
  go_ret
  exact ⟨rfl, HL2.out, HK2.out, HB2.out⟩
set_option maxHeartbeats 4000000 in
set_option maxRecDepth 100000 in
theorem lg_Append (g : Nat) (A : Option Addr) (c : Nat) (r : List Int) (w : World) (bd : Nat) (ok : Nat → Prop) (d : Nat) (x : Lg) (b : List Int) (h : LgAt w bd ok g d x) (hbd : bd ≤ w.heap.size) (hC : (Kd.int .u8).C w A r.length r) (hc : r.length ≤ c) (hL : Lays (x.rs ++ [r]) b) (hn : x.rs.length ≤ 1000000) (hrl : r.length ≤ 1000000) :
    Calls Try.prog 37 #[.pointer (some ⟨g, 0, none⟩), .slice A r.length c] w fun e w' => e = .returned (.int .i64 (x.become (x.rs ++ [r])).2) ∧ LgAt w' bd (fun k => ok k ∨ w.heap.size ≤ k) g d (x.become (x.rs ++ [r])).1 ∧ Kept w w' (fun k => k = g) ∧ Below bd w w' := by
  obtain ⟨⟨k1, hk1⟩, _, hlen, hm⟩ := hL
  obtain ⟨okl, v, hr, h1, hR⟩ := h.lgRows
  have hcell := (blk_cell h1 2).trans rfl
  have HC := Aside0.mk hC
  have HCC := Aside0.mk hc
  have HR := Aside0.mk hr
  have HLA := Aside0.mk hk1
  have HLEN := Aside0.mk hlen
  have HM := Aside0.mk hm
  have HBD := Aside0.mk hbd
  have HRR := Aside0.mk hR
  have HN := Aside0.mk hn
  have HRL := Aside0.mk hrl
  have HOKL := Aside0.mk hr.2.1
  have hls := Try.underlying94
  obtain ⟨A0, c0, rfl⟩ := Kd.R_slice hR
  clear hC h hr hk1 hlen hm hbd hR hn hrl h1
  go_enter Try.func37, Try.ntmps37
  go_wp2_with fail
  refine (lg_clone _ x.rs w bd okl HRR.out HBD.out (by have := HN.out; omega)).mono ?_
  rintro e' w1 ⟨v1, rfl, hR1, hnew, hb⟩
  obtain ⟨A1, c1, rfl⟩ := Kd.R_slice hR1
  have HR1 := Aside0.mk hR1
  have HNEW := Aside0.mk hnew
  have HB1 := Aside0.mk hb
  have HC1 := Aside0.mk (Kd.C_below HC.out hb)
  clear hR1 hnew hb hcell
  go_wp2_with fail
  refine (slices_Clone_byte_byte.calls A c r r _ HC1.out HCC.out (if_pos (by have := HRL.out; omega))).mono ?_
  rintro e' w2 ⟨v2, rfl, hR2, hb⟩
  obtain ⟨A2, c2, rfl⟩ := Kd.R_slice hR2
  have HR2 := Aside0.mk hR2
  have HR12 := Aside0.mk (Kd.R_below HR1.out hb)
  have HB2 := Aside0.mk (below_step HB1.out hb)
  have HP : Aside0 ((Kd.slice 5 (Kd.int .u8)).M w2 bd (fun k => w1.heap.size ≤ k) r [.slice A2 r.length c2]) := ⟨⟨_, rfl, Kd.R_lower (Kd.R_mono (Kd.R_bound hR2) (ok' := fun k => w1.heap.size ≤ k) (fun k hk => hk.2.1)) (Nat.le_trans HBD.out HB1.out.size)⟩⟩
  have HPO : Aside0 (∀ k, w1.heap.size ≤ k → (okl k ∨ w.heap.size ≤ k) ∧ some k ≠ (Value.slice A1 x.rs.length c1).ownBlock) := ⟨fun k hk => ⟨.inr (Nat.le_trans HB1.out.size hk), fun e => by have := Kd.R_lt HR1.out k e.symm; omega⟩⟩
  have HF : Aside0 (∀ k, w2.heap.size ≤ k → okl k ∨ w.heap.size ≤ k) := ⟨fun k hk => .inr (Nat.le_trans HB2.out.size hk)⟩
  have HBB := Aside0.mk (HB2.out.mono HBD.out)
  have HSS : Aside0 (bd ≤ w2.heap.size) := ⟨Nat.le_trans HBD.out HB2.out.size⟩
  have HLL : Aside0 ((x.rs.length + 1) * 24 ≤ 140737488355328) := ⟨by have := HN.out; omega⟩
  clear hR2 hb
  go_wp2_with (first | (at_builtin; refine Kd.R_append (Kd.slice 5 (Kd.int .u8)) (w0 := w) bd rfl (.tmp 10) (.tmp 13) 63 30 (.slice none 0 0) 24 rfl Try.underlying63 info30 rfl Nat.one_pos (Nat.succ_pos 23) (.slice A1 x.rs.length c1) x.rs r [.slice A2 r.length c2] (fun k => okl k ∨ w.heap.size ≤ k) (fun k => w1.heap.size ≤ k) rfl rfl ?aM ?aP ?aF ?aO ?aB ?aS ?aL ?_; (case aM => exact HP.out); (case aP => exact HPO.out); (case aF => exact HF.out); (case aO => exact HR12.out); (case aB => exact HBB.out); (case aS => exact HSS.out); (case aL => exact HLL.out); intro v3 w3 hR3 hB3 hg3 hat3; have HR3 := Aside0.mk hR3; have HG3 := Aside0.mk hg3; have HB3 := Aside0.mk hB3; obtain ⟨A3, c3, rfl⟩ := Kd.R_slice hR3; clear hR3 hB3 hg3 hat3))
  have hr3 := HR3.out
  rw [show (x.rs ++ [r]).length = x.rs.length + 1 by rw [List.length_append]; rfl] at hr3
  have hb3 : Below w.heap.size w w3 := ⟨HB3.out.os, HB3.out.tape, HB3.out.output, HB3.out.size, fun i hi => (HG3.out.block i (Nat.lt_of_lt_of_le hi HB2.out.size) (fun e => by have := HNEW.out i e.symm; omega)).trans (HB2.out.block i hi)⟩
  refine (log_Log_become.walk k1 g _ (x.rs ++ [r]) b w _ bd ok okl d x HR.out hb3 HBD.out hr3 HLA.out HLEN.out (by have := HM.out; omega)).mono ?_
  rintro e' w4 ⟨rfl, hl, hk, hb⟩
  have HL2 := Aside0.mk hl
  have HK2 := Aside0.mk hk
  have HB4 := Aside0.mk hb
  clear hl hk hb hr3 hb3
  go_wp2
  go_ret
  exact ⟨rfl, HL2.out, HK2.out, HB4.out⟩

end Go.Proofs.Ytpkhpfgojhojaaa.PLg

namespace Go.Proofs.Ytpkhpfgojhojaaa.PLg
open Go.RowKit Go.Proofs.YtpkhpfgojhojaaaW.PrintWords Go.Proofs.YtpkhpfgojhojaaaW.PrintLast Go.Proofs.YtpkhpfgojhojaaaW.PrintMore
attribute [local go_sem] max2_int min2_int max_two min_two max_three min_three max_four min_four   -- for this text's walks alone
set_option linter.unusedVariables false
set_option linter.unusedSimpArgs false

/-! ### log_parse: function 69 -/
mutual
def log_parse.l0 : Nat → List Int → List (List Int) → Option ((List (List Int)) × Bool)
  | 0, _, _ => none
  | k + 1, x0, x2 => if (x0.length : Int) > 0 then (if (x0.length : Int) < 8 then (log_parse.j1 k x0 x2 true) else ((log_word.f k x0).bind fun t125 => (log_parse.j1 k x0 x2 (decide (t125 > (IntKind.u64.wrap (wrap64 ((x0.length : Int) - 8)))))))) else (some (x2, true))
def log_parse.j1 : Nat → List Int → List (List Int) → Bool → Option ((List (List Int)) × Bool)
  | 0, _, _, _ => none
  | k + 1, x0, x2, x19 => if x19 = true then (some (([] : List (List Int)), false)) else ((log_word.f k x0).bind fun t126 => (if 8 ≤ (wrap64 (8 + (wrap64 (t126)))) then (if (wrap64 (8 + (wrap64 (t126)))) ≤ (x0.length : Int) then ((slices_Clone_byte_byte_48.f ((x0.take ((wrap64 (8 + (wrap64 (t126)))) : Int).toNat).drop 8)).bind fun t132 => (if x2.length < 5864062014805 then (if 0 ≤ (wrap64 (8 + (wrap64 (t126)))) then (log_parse.l0 k (x0.drop ((wrap64 (8 + (wrap64 (t126)))) : Int).toNat) (x2 ++ [t132])) else (none)) else (none))) else (none)) else (none)))
end
def log_parse.f (k : Nat) (l0 : List Int) : Option ((List (List Int)) × Bool) := log_parse.l0 k l0 ([] : List (List Int))
theorem log_parse.mono_l : ∀ k, (∀ y0 y1, LeO (log_parse.l0 k y0 y1) (log_parse.l0 (k + 1) y0 y1)) ∧ (∀ y0 y1 y2, LeO (log_parse.j1 k y0 y1 y2) (log_parse.j1 (k + 1) y0 y1 y2))
  | 0 => ⟨fun _ _ r h => by simp [log_parse.l0] at h, fun _ _ _ r h => by simp [log_parse.j1] at h⟩
  | k + 1 => by
    obtain ⟨ih0, ih1⟩ := log_parse.mono_l k
    refine ⟨?_, ?_⟩
    · intro y0 y1
      unfold log_parse.l0
      repeat' first
      | (with_reducible exact ih0 _ _)
      | (with_reducible exact ih1 _ _ _)
      | (with_reducible exact log_word.mono _ _)
      | (with_reducible exact LeO.refl _)
      | (with_reducible exact LeO.none _)
      | (with_reducible refine LeO.ite ?_ ?_)
      | (with_reducible refine LeO.bind ?_ (fun _ => ?_))
      | exact ih0 _ _
      | exact ih1 _ _ _
      | exact log_word.mono _ _
      | exact LeO.none _
      | refine LeO.ite ?_ ?_
      | refine LeO.bind ?_ (fun _ => ?_)
    · intro y0 y1 y2
      unfold log_parse.j1
      repeat' first
      | (with_reducible exact ih0 _ _)
      | (with_reducible exact ih1 _ _ _)
      | (with_reducible exact log_word.mono _ _)
      | (with_reducible exact LeO.refl _)
      | (with_reducible exact LeO.none _)
      | (with_reducible refine LeO.ite ?_ ?_)
      | (with_reducible refine LeO.bind ?_ (fun _ => ?_))
      | exact ih0 _ _
      | exact ih1 _ _ _
      | exact log_word.mono _ _
      | exact LeO.none _
      | refine LeO.ite ?_ ?_
      | refine LeO.bind ?_ (fun _ => ?_)
theorem log_parse.mono : ∀ a0 k, LeO (log_parse.f k a0) (log_parse.f (k + 1) a0) := by
  intro a0 k
  obtain ⟨ih0, ih1⟩ := log_parse.mono_l k
  unfold log_parse.f
  repeat' first
      | (with_reducible exact ih0 _ _)
      | (with_reducible exact ih1 _ _ _)
      | (with_reducible exact log_word.mono _ _)
      | (with_reducible exact LeO.refl _)
      | (with_reducible exact LeO.none _)
      | (with_reducible refine LeO.ite ?_ ?_)
      | (with_reducible refine LeO.bind ?_ (fun _ => ?_))
      | exact ih0 _ _
      | exact ih1 _ _ _
      | exact log_word.mono _ _
      | exact LeO.none _
      | refine LeO.ite ?_ ?_
      | refine LeO.bind ?_ (fun _ => ?_)
set_option maxHeartbeats 8000000 in
set_option maxRecDepth 100000 in
theorem log_parse.calls (k : Nat) (P0_ : Nat → Prop) (A0 : Option Addr) (c0 : Nat) (l0 : List Int) (r1 : List (List Int)) (r2 : Bool) (w : World) (hs0 : Kd.V (Kd.int .u8) 5 w w.heap.size (fun k_ => P0_ k_) (.slice A0 l0.length c0) l0) (h : log_parse.f k l0 = some (r1, r2)) :
    Calls Try.prog 69 #[.slice A0 l0.length c0] w fun e w' => ∃ v0_ : Value, e = .returned (.tuple #[v0_, .bool r2]) ∧ Kd.S (Kd.slice 5 (Kd.int .u8)) 30 w' w.heap.size (fun k_ => (w.heap.size ≤ k_)) v0_ r1 ∧ Below w.heap.size w w' := by
  have HO0 := Aside0.mk (show Kd.V (Kd.int .u8) 5 w w.heap.size (fun k_ => (P0_ k_ ∨ w.heap.size ≤ k_)) (.slice A0 l0.length c0) l0 from Kd.V_mono hs0 (fun k_ hk => .inl hk))
  have HB := Aside0.mk (Below.refl w.heap.size w)
  have H : (log_parse.l0 k l0 ([] : List (List Int))) = some (r1, r2) := h
  clear h
  have H' := Aside0.mk H
  clear H
  go_enter Try.func69, Try.ntmps69
  go_wp2
  go_loopg [0, 2] k (fun kq v0 v2 w' => ∃ (x0_1 : List Int) (x2_1 : List (List Int)), Aside0 (log_parse.l0 kq x0_1 x2_1 = some (r1, r2)) ∧ Aside0 (kq ≤ k) ∧ Aside0 (Kd.V (Kd.int .u8) 5 w' w.heap.size (fun k_ => (P0_ k_ ∨ w.heap.size ≤ k_) ∧ some k_ ≠ (v2 : Value).ownBlock) v0 x0_1) ∧ Aside0 (Kd.S (Kd.slice 5 (Kd.int .u8)) 30 w' w.heap.size (fun k_ => (w.heap.size ≤ k_)) v2 x2_1) ∧ Aside0 (Below w.heap.size w w'))
  case atStart => exact ⟨(l0), (([] : List (List Int))), H', ⟨Nat.le_refl _⟩, ⟨by (with_reducible repeat (first | apply Kd.V_alloc | apply Kd.V_drewN | apply Kd.V_drew)); exact Kd.V_mono HO0.out (fun _ hk => ⟨hk, (by simp [Value.ownBlock])⟩)⟩, ⟨by first | exact Kd.S_nil _ _ _ _ _ | exact Kd.N_nil _ _ _ _ _ | exact Kd.V_nil _ _ _ _ _ | exact Kd.Q_nil _ _ _ _ _ | exact Kd.R_nil _ _ _ _ _⟩, ⟨by repeat (first | (with_reducible first | exact HB.out | apply below_alloc | apply pw_below_drewN | apply below_drew1) | exact HB.out)⟩⟩
  case round =>
    clear H'
    obtain ⟨x0_1, x2_1, HA, HK1, HO_0, HO_2, HB⟩ := hrel
    cases gk with
    | zero => exact absurd HA.out (by simp [log_parse.l0])
    | succ k1 =>
      have H := HA.out
      clear HA
      simp only [log_parse.l0] at H
      by_cases c2 : (x0_1.length : Int) > 0
      · rw [if_pos c2] at H
        have c2b0 : decide (0 < (x0_1.length : Int)) = true := decide_eq_true c2
        have c2b1 : decide (0 < x0_1.length) = true := decide_eq_true (by omega)
        clear c2
        have HC3 := Aside0.mk H
        clear H
        obtain ⟨Ao4, co4, eo4⟩ := Kd.V_slice HO_0.out
        subst eo4
        go_upto_region 2 with (fail)
        go_cut [19] (fun v19 wc => ∃ (kq : Nat) (x19_2 : Bool), v19 = .bool x19_2 ∧ Aside0 (log_parse.j1 kq x0_1 x2_1 x19_2 = some (r1, r2)) ∧ Aside0 (kq ≤ k1) ∧ Aside0 (Kd.V (Kd.int .u8) 5 wc w.heap.size (fun k_ => (P0_ k_ ∨ w.heap.size ≤ k_) ∧ some k_ ≠ (u2 : Value).ownBlock) (.slice Ao4 x0_1.length co4) x0_1) ∧ Aside0 (Kd.S (Kd.slice 5 (Kd.int .u8)) 30 wc w.heap.size (fun k_ => (w.heap.size ≤ k_)) u2 x2_1) ∧ Aside0 (Below w.heap.size w wc))
        case first =>
          have H := HC3.out
          clear HC3
          by_cases c5 : (x0_1.length : Int) < 8
          · rw [if_pos c5] at H
            have c5b0 : decide ((x0_1.length : Int) < 8) = true := decide_eq_true c5
            have c5b1 : decide (x0_1.length < 8) = true := decide_eq_true (by omega)
            clear c5
            (first | rw [c5b0] | (simp only [i64_w, i32_w]; rw [c5b0]) | skip)
            have H' := Aside0.mk H
            clear H
            go_wp2
            go_meet
            case rel => exact ⟨_, (true), (by first | rfl | (simp; done) | (simp [*]; done)), H', ⟨by have := HK1.out; first | omega | exact Nat.le_refl _⟩, ⟨by (with_reducible repeat (first | apply Kd.V_alloc | apply Kd.V_drewN | apply Kd.V_drew)); exact HO_0.out⟩, ⟨by (with_reducible repeat (first | apply Kd.S_alloc | apply Kd.S_drewN | apply Kd.S_drew)); exact HO_2.out⟩, ⟨by repeat (first | (with_reducible first | exact HB.out | apply below_alloc | apply pw_below_drewN | apply below_drew1) | exact HB.out)⟩⟩
          · rw [if_neg c5] at H
            have c5b0 : decide ((x0_1.length : Int) < 8) = false := decide_eq_false c5
            have c5b1 : decide (x0_1.length < 8) = false := decide_eq_false (by omega)
            clear c5
            (first | rw [c5b0] | (simp only [i64_w, i32_w]; rw [c5b0]) | skip)
            replace H := Option.bind_eq_some_iff.mp H
            obtain ⟨t125, A60, H⟩ := H
            replace H : (log_parse.j1 k1 x0_1 x2_1 (decide (t125 > (IntKind.u64.wrap (wrap64 ((x0_1.length : Int) - 8)))))) = some (r1, r2) := H
            have A6 := Aside0.mk A60
            clear A60
            have H' := Aside0.mk H
            clear H
            go_wp2_with (first | (go_at_call 65; (with_reducible refine (log_word.calls k1 _ _ x0_1 t125 _ ?side1 ?side2 A6.out).mono ?_); (case side1 => repeat (first | exact (Kd.V_reads' HO_0.out).2.2 | (with_reducible refine Kd.C_alloc ?_ _) | (with_reducible refine Kd.C_drewN ?_ _) | (with_reducible refine Kd.C_drew ?_))); (case side2 => exact (Kd.V_reads' HO_0.out).2.1); rintro e w' ⟨rfl, ⟨nd, rfl⟩⟩))
            go_meet
            case rel => exact ⟨_, (decide (t125 > (IntKind.u64.wrap (wrap64 ((x0_1.length : Int) - 8))))), (by first | rfl | (simp; done) | (simp [*]; done)), H', ⟨by have := HK1.out; first | omega | exact Nat.le_refl _⟩, ⟨by (with_reducible repeat (first | apply Kd.V_alloc | apply Kd.V_drewN | apply Kd.V_drew)); exact HO_0.out⟩, ⟨by (with_reducible repeat (first | apply Kd.S_alloc | apply Kd.S_drewN | apply Kd.S_drew)); exact HO_2.out⟩, ⟨by repeat (first | (with_reducible first | exact HB.out | apply below_alloc | apply pw_below_drewN | apply below_drew1) | exact HB.out)⟩⟩
        case rest =>
          clear HC3
          try clear c2
          try clear c2b0
          try clear c2b1
          try clear p2
          try clear c5
          try clear c5b0
          try clear c5b1
          try clear c6
          try clear p6
          obtain ⟨kq, x19_2, rfl, HA, HJ2, HO_0, HO_2, HB⟩ := hcut
          cases kq with
          | zero => exact absurd HA.out (by simp [log_parse.j1])
          | succ kj2 =>
            have H := HA.out
            clear HA
            simp only [log_parse.j1] at H
            by_cases c7 : x19_2 = true
            · subst c7
              have H1 : (some (([] : List (List Int)), false)) = some (r1, r2) := by rw [if_pos rfl] at H; exact H
              clear H
              have H := H1
              clear H1
              simp only [Option.some.injEq, Prod.mk.injEq] at H
              obtain ⟨rfl, rfl⟩ := H
              go_wp2
              go_ret2
              exact ⟨_, by first | rfl | (simp [errW_none, errW_some] <;> rfl) | (simp [*, errW_none, errW_some] <;> rfl), by first | exact Kd.S_nil _ _ _ _ _ | exact Kd.N_nil _ _ _ _ _ | exact Kd.V_nil _ _ _ _ _ | exact Kd.Q_nil _ _ _ _ _ | exact Kd.R_nil _ _ _ _ _, by repeat (first | (with_reducible first | exact HB.out | apply below_alloc | apply pw_below_drewN | apply below_drew1) | exact HB.out)⟩
            · replace c7 := Bool.eq_false_iff.mpr c7
              subst c7
              have H1 : ((log_word.f kj2 x0_1).bind fun t126 => (if 8 ≤ (wrap64 (8 + (wrap64 (t126)))) then (if (wrap64 (8 + (wrap64 (t126)))) ≤ (x0_1.length : Int) then ((slices_Clone_byte_byte_48.f ((x0_1.take ((wrap64 (8 + (wrap64 (t126)))) : Int).toNat).drop 8)).bind fun t132 => (if x2_1.length < 5864062014805 then (if 0 ≤ (wrap64 (8 + (wrap64 (t126)))) then (log_parse.l0 kj2 (x0_1.drop ((wrap64 (8 + (wrap64 (t126)))) : Int).toNat) (x2_1 ++ [t132])) else (none)) else (none))) else (none)) else (none))) = some (r1, r2) := by rw [if_neg (show ¬ (false = true) by decide)] at H; exact H
              clear H
              have H := H1
              clear H1
              replace H := Option.bind_eq_some_iff.mp H
              obtain ⟨t126, A80, H⟩ := H
              replace H : (if 8 ≤ (wrap64 (8 + (wrap64 (t126)))) then (if (wrap64 (8 + (wrap64 (t126)))) ≤ (x0_1.length : Int) then ((slices_Clone_byte_byte_48.f ((x0_1.take ((wrap64 (8 + (wrap64 (t126)))) : Int).toNat).drop 8)).bind fun t132 => (if x2_1.length < 5864062014805 then (if 0 ≤ (wrap64 (8 + (wrap64 (t126)))) then (log_parse.l0 kj2 (x0_1.drop ((wrap64 (8 + (wrap64 (t126)))) : Int).toNat) (x2_1 ++ [t132])) else (none)) else (none))) else (none)) else (none)) = some (r1, r2) := H
              have A8 := Aside0.mk A80
              clear A80
              by_cases c9 : 8 ≤ (wrap64 (8 + (wrap64 (t126))))
              · rw [if_pos c9] at H
                have c9b0 := eq_true c9
                have c9b1 : decide (8 ≤ (wrap64 (8 + (wrap64 (t126))))) = true := decide_eq_true c9
                by_cases c10 : (wrap64 (8 + (wrap64 (t126)))) ≤ (x0_1.length : Int)
                · rw [if_pos c10] at H
                  have c10b0 := eq_true c10
                  have c10b1 : decide ((wrap64 (8 + (wrap64 (t126)))) ≤ (x0_1.length : Int)) = true := decide_eq_true c10
                  obtain ⟨y127, hy127⟩ : ∃ y_ : List Int, y_ = ((x0_1.take ((wrap64 (8 + (wrap64 (t126)))) : Int).toNat).drop 8) := ⟨_, rfl⟩
                  replace H : ((slices_Clone_byte_byte_48.f y127).bind fun t132 => (if x2_1.length < 5864062014805 then (if 0 ≤ (wrap64 (8 + (wrap64 (t126)))) then (log_parse.l0 kj2 (x0_1.drop ((wrap64 (8 + (wrap64 (t126)))) : Int).toNat) (x2_1 ++ [t132])) else (none)) else (none))) = some (r1, r2) := by first | (rw [hy127]; with_reducible exact H) | (have H2_ := (Option.bind_some _ _).symm.trans H; rw [hy127]; with_reducible exact H2_) | (have H2_ := (Option.bind_some _ _).symm.trans H; with_reducible exact H2_) | with_reducible exact H | (rw [hy127]; exact H) | exact H
                  have Ny127 := Aside0.mk hy127
                  clear hy127
                  replace H := Option.bind_eq_some_iff.mp H
                  obtain ⟨t132, A110, H⟩ := H
                  replace H : (if x2_1.length < 5864062014805 then (if 0 ≤ (wrap64 (8 + (wrap64 (t126)))) then (log_parse.l0 kj2 (x0_1.drop ((wrap64 (8 + (wrap64 (t126)))) : Int).toNat) (x2_1 ++ [t132])) else (none)) else (none)) = some (r1, r2) := H
                  have A11 := Aside0.mk A110
                  clear A110
                  by_cases c12 : x2_1.length < 5864062014805
                  · rw [if_pos c12] at H
                    have LMc12 := Aside0.mk c12
                    clear c12
                    obtain ⟨y135, hy135⟩ : ∃ y_ : List (List Int), y_ = (x2_1 ++ [t132]) := ⟨_, rfl⟩
                    replace H : (if 0 ≤ (wrap64 (8 + (wrap64 (t126)))) then (log_parse.l0 kj2 (x0_1.drop ((wrap64 (8 + (wrap64 (t126)))) : Int).toNat) y135) else (none)) = some (r1, r2) := by first | (rw [hy135]; with_reducible exact H) | (have H2_ := (Option.bind_some _ _).symm.trans H; rw [hy135]; with_reducible exact H2_) | (have H2_ := (Option.bind_some _ _).symm.trans H; with_reducible exact H2_) | with_reducible exact H | (rw [hy135]; exact H) | exact H
                    have Ny135 := Aside0.mk hy135
                    clear hy135
                    obtain ⟨ji13, hji13⟩ : ∃ j_ : Int, (wrap64 (8 + (wrap64 (t126)))) = j_ := ⟨_, rfl⟩
                    replace H : (if 0 ≤ (ji13) then (log_parse.l0 kj2 (x0_1.drop ((ji13) : Int).toNat) y135) else (none)) = some (r1, r2) := by first | (rw [hji13] at H; exact H) | (simp only [hji13] at H ⊢; exact H)
                    (try rw [hji13] at c9b0)
                    (try rw [hji13] at c9b1)
                    (try rw [hji13] at c9)
                    (try rw [hji13] at c10b0)
                    (try rw [hji13] at c10b1)
                    (try rw [hji13] at c10)
                    (try rw [hji13] at A8)
                    (try rw [hji13] at Ny127)
                    (try rw [hji13] at A11)
                    have hji13w : (IntKind.i64.wrap (8 + (wrap64 (t126)))) = ji13 := (i64_w _).trans hji13
                    by_cases c14 : 0 ≤ (ji13)
                    · rw [if_pos c14] at H
                      have c14b0 := eq_true c14
                      have c14b1 : decide (0 ≤ (ji13)) = true := decide_eq_true c14
                      clear c14
                      have c15b0 := eq_true (of_decide_eq_true (by first | (with_reducible assumption) | assumption) : (ji13) ≤ (x0_1.length : Int))
                      obtain ⟨y138, hy138⟩ : ∃ y_ : List Int, y_ = (x0_1.drop ((ji13) : Int).toNat) := ⟨_, rfl⟩
                      replace H : (log_parse.l0 kj2 y138 y135) = some (r1, r2) := by first | (rw [hy138]; with_reducible exact H) | (have H2_ := (Option.bind_some _ _).symm.trans H; rw [hy138]; with_reducible exact H2_) | (have H2_ := (Option.bind_some _ _).symm.trans H; with_reducible exact H2_) | with_reducible exact H | (rw [hy138]; exact H) | exact H
                      have Ny138 := Aside0.mk hy138
                      clear hy138
                      have H' := Aside0.mk H
                      clear H
                      go_wp2_with (first | ((with_reducible refine gate_callee (f := 65) rfl ?_); refine goesL_ (some 21) rfl rfl Try.func65 (by kernel_rfl) rfl #[.slice Ao4 x0_1.length co4] rfl (by (try simp only [List.map_toArray, List.map_cons, List.map_nil]); first | done | rfl | (simp only [List.length_drop, List.length_take]; rfl)) ?_; (with_reducible refine (log_word.calls kj2 _ _ x0_1 t126 _ ?side1 ?side2 A8.out).mono ?_); (case side1 => repeat (first | exact (Kd.V_reads' HO_0.out).2.2 | (with_reducible refine Kd.C_alloc ?_ _) | (with_reducible refine Kd.C_drewN ?_ _) | (with_reducible refine Kd.C_drew ?_))); (case side2 => exact (Kd.V_reads' HO_0.out).2.1); rintro e w' ⟨rfl, ⟨nd, rfl⟩⟩; refine ⟨_, rfl, ?_⟩; have q16 : ((ji13) : Int) ≤ ((x0_1.length : Int) : Int) := of_decide_eq_true (by first | (with_reducible assumption) | assumption); obtain ⟨i016, hi016, _, hsz16, _⟩ := info_parts info5; have hroom16 : x0_1.length ≤ co4 := (Kd.V_reads' HO_0.out).2.1; have hC16 : Kd.F (Kd.int .u8) _ _ Ao4 x0_1.length x0_1 := (Kd.V_at (base := w.heap.size) HO_0.out).2.2; have ql16 : (8 : Int) ≤ ((ji13) : Int) := of_decide_eq_true (by first | (with_reducible assumption) | assumption); have hcut16 := cut_mid (P := Try.prog) 30 5 .i64 .i64 Try.underlying30 hi016 1 hsz16 Ao4 x0_1.length co4 8 (ji13) (by omega) ql16 q16 hroom16; have hr16 := Kd.F_mid (lo := (8 : Int).toNat) (hi := ((ji13) : Int).toNat) (c := co4) hC16 (by omega) (by omega) hroom16; obtain ⟨A16, hA16⟩ : ∃ A1, A1 = (if co4 = (8 : Int).toNat then Ao4 else (Ao4 : Option Addr).map (·.add ((8 : Int).toNat * 1))) := ⟨_, rfl⟩; obtain ⟨c16, hc16⟩ : ∃ c1, c1 = co4 - (8 : Int).toNat := ⟨_, rfl⟩; have hy16 : y127.length = ((ji13) : Int).toNat - (8 : Int).toNat := (by rw [Ny127.out, List.length_drop, List.length_take] <;> omega); rw [show ((x0_1).take ((ji13) : Int).toNat).drop (8 : Int).toNat = y127 from Ny127.out.symm] at hr16; replace hr16 : Kd.F (Kd.int .u8) _ _ A16 y127.length y127 := (by rw [hA16]; exact hr16); rw [← hy16, ← hA16, ← hc16] at hcut16; have HO131 := Aside0.mk (show Kd.V (Kd.int .u8) 5 _ w.heap.size _ (.slice A16 y127.length c16) y127 from Kd.V_mk (by rw [hy16, hc16]; exact Nat.sub_le_sub_right (Nat.le_trans (by omega) hroom16) _) hr16); have HC131 := Aside0.mk (show y127.length ≤ c16 from by rw [hy16, hc16]; exact Nat.sub_le_sub_right (Nat.le_trans (by omega) hroom16) _); clear hr16 hC16 hroom16 hi016 hsz16 hc16; have KY16 := Aside0.mk hy16; have KA16 := Aside0.mk hA16; clear hy16 hA16; replace q16 := eq_true q16) | ((with_reducible refine gate_callee (f := 48) rfl ?_); refine goesL_ (some 28) rfl rfl Try.func48 (by kernel_rfl) rfl #[.slice A16 y127.length c16] rfl (by (try simp only [List.map_toArray, List.map_cons, List.map_nil]); first | done | rfl | (simp only [List.length_drop, List.length_take]; rfl)) ?_; (with_reducible refine (slices_Clone_byte_byte_48.calls _ _ y127 t132 _ ?side1 ?side2 A11.out).mono ?_); (case side1 => repeat (first | exact (Kd.V_reads' HO131.out).2.2 | (with_reducible refine Kd.C_alloc ?_ _) | (with_reducible refine Kd.C_drewN ?_ _) | (with_reducible refine Kd.C_drew ?_))); (case side2 => exact (Kd.V_reads' HO131.out).2.1); rintro e w17 ⟨v133, rfl, ho0, hb⟩; refine ⟨_, rfl, ?_⟩; have n0_ := Aside0.mk (Kd.V_elder' (by (with_reducible repeat (first | apply Kd.V_alloc | apply Kd.V_drewN | apply Kd.V_drew)); exact HO_0.out) (Kd.R_base ho0) hb); have n1_ := Aside0.mk (Kd.S_elder' (by (with_reducible repeat (first | apply Kd.S_alloc | apply Kd.S_drewN | apply Kd.S_drew)); exact HO_2.out) (Kd.R_base ho0) hb); have n2_ := Aside0.mk (Kd.V_elder' (by (with_reducible repeat (first | apply Kd.V_alloc | apply Kd.V_drewN | apply Kd.V_drew)); exact HO131.out) (Kd.R_base ho0) hb); have n3_ := Aside0.mk (Kd.R_lower (Kd.R_newM (M := fun k_ => (w.heap.size ≤ k_)) ho0 (below_size (by repeat (first | (with_reducible first | exact HB.out | apply below_alloc | apply pw_below_drewN | apply below_drew1) | exact HB.out))) (fun k_ h_ => h_)) (below_size (by repeat (first | (with_reducible first | exact HB.out | apply below_alloc | apply pw_below_drewN | apply below_drew1) | exact HB.out)))); have n4_ := Aside0.mk (below_step (by repeat (first | (with_reducible first | exact HB.out | apply below_alloc | apply pw_below_drewN | apply below_drew1) | exact HB.out)) hb); clear HO_0; clear HO_2; clear HO131; clear HB; have HO_0 := n0_; have HO_2 := n1_; have HO131 := n2_; have HO134 := n3_; have HB := n4_; clear n0_ n1_ n2_ n3_ n4_; (try clear hb); (try clear hb2); (try clear hk); (try clear hi); (try clear ho0); obtain ⟨Ao19, co19, eo19⟩ := Kd.R_slice HO134.out; subst eo19) | ((with_reducible refine gate_builtin (b := .append) (xs := #[.tmp 23, .tmp 29]) rfl ?_); (try (refine gate_guard (by rfl) ?_; dsimp only)); at_builtin; refine Kd.S_append (Kd.slice 5 (Kd.int .u8)) (w0 := w) w.heap.size rfl (.tmp 23) (.tmp 29) 63 30 (.slice none 0 0) 24 rfl Try.underlying63 info30 rfl (by decide) (by omega) u2 x2_1 t132 [.slice Ao19 t132.length co19] (fun k_ => (w.heap.size ≤ k_)) (fun k_ => some k_ = (.slice Ao19 t132.length co19 : Value).ownBlock) rfl rfl ?aP (fun k_ hk_ => ((Kd.R_mono (ok' := fun k_ => ((fun k_ => (w.heap.size ≤ k_))) k_ ∧ some k_ ≠ (u2 : Value).ownBlock) (Kd.R_apart' (HO134.out) (Kd.S_typed HO_2.out) (by decide)) (fun k_ hk => ⟨hk.1.1, hk.2⟩))).1 k_ hk_.symm) ?aF ?aO ?aB ?aS ?aL ?_; (case aP => exact Kd.M_row (Kd.R_mono (Kd.R_tight rfl (Kd.R_mono (ok' := fun k_ => ((fun k_ => (w.heap.size ≤ k_))) k_ ∧ some k_ ≠ (u2 : Value).ownBlock) (Kd.R_apart' (HO134.out) (Kd.S_typed HO_2.out) (by decide)) (fun k_ hk => ⟨hk.1.1, hk.2⟩))) (fun _ h_ => h_))); (case aB => exact (by repeat (first | (with_reducible first | exact HB.out | apply below_alloc | apply pw_below_drewN | apply below_drew1) | exact HB.out))); (case aF => exact (fun k_ hk => (Nat.le_trans (below_size (by repeat (first | (with_reducible first | exact HB.out | apply below_alloc | apply pw_below_drewN | apply below_drew1) | exact HB.out))) hk))); (case aO => exact (by (with_reducible repeat (first | apply Kd.S_alloc | apply Kd.S_drewN | apply Kd.S_drew)); exact Kd.S_mono HO_2.out (fun k_ hk => ⟨hk.1, fun e_ => hk.2 e_⟩))); (case aS => exact (below_size (by repeat (first | (with_reducible first | exact HB.out | apply below_alloc | apply pw_below_drewN | apply below_drew1) | exact HB.out)))); (case aL => have := LMc12.out; omega); intro v136 w18 ho hb hg hat; rw [← Ny135.out] at ho; have n0_ := Aside0.mk (Kd.V_afterv (ok := (fun k_ => (P0_ k_ ∨ w.heap.size ≤ k_) ∧ some k_ ≠ (.slice Ao19 t132.length co19 : Value).ownBlock)) (by (with_reducible repeat (first | apply Kd.V_alloc | apply Kd.V_drewN | apply Kd.V_drew)); exact Kd.V_mono HO_0.out (fun _ hk => ⟨⟨hk.1.1, hk.2⟩, hk.1.2⟩)) hg hat); have n1_ := Aside0.mk (Kd.V_afterv (ok := (fun k_ => (P0_ k_ ∨ w.heap.size ≤ k_) ∧ some k_ ≠ (.slice Ao19 t132.length co19 : Value).ownBlock)) (by (with_reducible repeat (first | apply Kd.V_alloc | apply Kd.V_drewN | apply Kd.V_drew)); exact Kd.V_mono HO131.out (fun _ hk => ⟨⟨hk.1.1, hk.2⟩, hk.1.2⟩)) hg hat); have n2_ := Aside0.mk (hb); have n3_ := Aside0.mk (ho); clear HO_0; clear HO131; clear HB; clear HO_2; clear HO134; have HO_0 := n0_; have HO131 := n1_; have HB := n2_; have HO137 := n3_; clear n0_ n1_ n2_ n3_; clear ho hb hg hat; have q20 : ((ji13) : Int) ≤ ((x0_1.length : Int) : Int) := of_decide_eq_true (by first | (with_reducible assumption) | assumption); obtain ⟨i020, hi020, _, hsz20, _⟩ := info_parts info5; have hroom20 : x0_1.length ≤ co4 := (Kd.V_reads' HO_0.out).2.1; have hC20 : Kd.F (Kd.int .u8) _ _ Ao4 x0_1.length x0_1 := (Kd.V_at (base := w.heap.size) HO_0.out).2.2; have q020 : (0 : Int) ≤ ((ji13) : Int) := of_decide_eq_true (by first | (with_reducible assumption) | assumption); have hcut20 := cut_from (P := Try.prog) 30 5 .i64 Try.underlying30 hi020 1 hsz20 Ao4 x0_1.length co4 (ji13) q020 q20; have hr20 := Kd.F_cut (m := ((ji13) : Int).toNat) (c := co4) hC20 (by omega) hroom20; obtain ⟨A20, hA20⟩ : ∃ A1, A1 = (if co4 = ((ji13) : Int).toNat then Ao4 else (Ao4 : Option Addr).map (·.add (((ji13) : Int).toNat * 1))) := ⟨_, rfl⟩; obtain ⟨c20, hc20⟩ : ∃ c1, c1 = co4 - ((ji13) : Int).toNat := ⟨_, rfl⟩; have hy20 : y138.length = x0_1.length - ((ji13) : Int).toNat := (by rw [Ny138.out, List.length_drop] <;> omega); rw [show (x0_1).drop ((ji13) : Int).toNat = y138 from Ny138.out.symm] at hr20; replace hr20 : Kd.F (Kd.int .u8) _ _ A20 y138.length y138 := (by rw [hA20]; exact hr20); rw [← hy20, ← hA20, ← hc20] at hcut20; have HO142 := Aside0.mk (show Kd.V (Kd.int .u8) 5 _ w.heap.size _ (.slice A20 y138.length c20) y138 from Kd.V_mk (by rw [hy20, hc20]; exact Nat.sub_le_sub_right hroom20 _) hr20); have HC142 := Aside0.mk (show y138.length ≤ c20 from by rw [hy20, hc20]; exact Nat.sub_le_sub_right hroom20 _); clear hr20 hC20 hroom20 hi020 hsz20 hc20; have KY20 := Aside0.mk hy20; have KA20 := Aside0.mk hA20; clear hy20 hA20; replace q20 := eq_true q20))
                      go_roundg kj2
                      case measure => have := HK1.out; have := HJ2.out; omega
                      case rel => exact ⟨(y138), (y135), H', ⟨by have := HK1.out; have := HJ2.out; omega⟩, ⟨by (with_reducible repeat (first | apply Kd.V_alloc | apply Kd.V_drewN | apply Kd.V_drew)); exact Kd.V_mono HO142.out (fun _ hk => ⟨hk.1.1, hk.2⟩)⟩, ⟨by (with_reducible repeat (first | apply Kd.S_alloc | apply Kd.S_drewN | apply Kd.S_drew)); exact HO137.out⟩, ⟨by repeat (first | (with_reducible first | exact HB.out | apply below_alloc | apply pw_below_drewN | apply below_drew1) | exact HB.out)⟩⟩
                    · rw [if_neg c14] at H
                      exact absurd H (by simp)
                  · rw [if_neg c12] at H
                    exact absurd H (by simp)
                · rw [if_neg c10] at H
                  exact absurd H (by simp)
              · rw [if_neg c9] at H
                exact absurd H (by simp)
      · rw [if_neg c2] at H
        have c2b0 : decide (0 < (x0_1.length : Int)) = false := decide_eq_false c2
        have c2b1 : decide (0 < x0_1.length) = false := decide_eq_false (by omega)
        clear c2
        simp only [Option.some.injEq, Prod.mk.injEq] at H
        obtain ⟨rfl, rfl⟩ := H
        obtain ⟨Ao21, co21, eo21⟩ := Kd.V_slice HO_0.out
        subst eo21
        go_wp2
        go_ret2
        exact ⟨_, by first | rfl | (simp [errW_none, errW_some] <;> rfl) | (simp [*, errW_none, errW_some] <;> rfl), by (with_reducible repeat (first | apply Kd.S_alloc | apply Kd.S_drewN | apply Kd.S_drew)); exact HO_2.out, by repeat (first | (with_reducible first | exact HB.out | apply below_alloc | apply pw_below_drewN | apply below_drew1) | exact HB.out)⟩

end Go.Proofs.Ytpkhpfgojhojaaa.PLg

namespace Go.Proofs.Ytpkhpfgojhojaaa.PLg
open Go.RowKit Go.Proofs.YtpkhpfgojhojaaaW.PrintWords Go.Proofs.YtpkhpfgojhojaaaW.PrintLast Go.Proofs.YtpkhpfgojhojaaaW.PrintMore
attribute [local go_sem] max2_int min2_int max_two min_two max_three min_three max_four min_four
set_option linter.unusedVariables false
set_option linter.unusedSimpArgs false
-- FUNCTION: (*gangway/log.Log).load
-- IMPORT: Derived.Test.@N@WOwn
-- IMPORT: Derived.Test.@N@DAsked
theorem sec_next (E : List Int) (f n : Nat) (h : (f + n + 1) * 64 ≤ E.length) : (E.drop (f * 64)).take (n * 64) ++ sec E (f + n) = (E.drop (f * 64)).take ((n + 1) * 64) := by
  unfold sec
  rw [show (n + 1) * 64 = n * 64 + 64 by omega, List.take_add, List.drop_drop, show f * 64 + n * 64 = (f + n) * 64 by omega]
theorem lg_parse (k : Nat) (A : Option Addr) (n c : Nat) (l : List Int) (r : List (List Int)) (b : Bool) (w : World) (P0 : Nat → Prop) (hV : Kd.V (Kd.int .u8) 5 w w.heap.size P0 (.slice A n c) l) (h : log_parse.f k l = some (r, b)) :
    Calls Try.prog 69 #[.slice A n c] w fun e w' => ∃ v : Value, e = .returned (.tuple #[v, .bool b]) ∧ Kd.S (Kd.slice 5 (Kd.int .u8)) 30 w' w.heap.size (fun k => w.heap.size ≤ k) v r ∧ Below w.heap.size w w' := by
  obtain rfl := (Kd.V_at hV).1
  exact log_parse.calls k P0 A c l r b w hV h
def Lg.from (x : Lg) (nr : Int) : Nat := 2 + (nr % 2).toNat * x.area
set_option maxHeartbeats 8000000 in
set_option maxRecDepth 100000 in
theorem log_Log_load.walk (k g : Nat) (sz : Nat) (w : World) (bd : Nat) (ok : Nat → Prop) (d : Nat) (x : Lg) (rs : List (List Int)) (h : LgAt w bd ok g d x) (hoff : x.y.off = false) (h2 : 128 ≤ x.y.E.length) (hnr : 0 ≤ x.nr) (hsz : sz ≤ x.area * 64) (hbd : bd ≤ w.heap.size) (hp : log_parse.f k ((x.y.E.drop (x.from x.nr * 64)).take sz) = some (rs, true)) :
    Calls Try.prog 58 #[.pointer (some ⟨g, 0, none⟩), .int .i64 sz] w fun e w' => e = .returned (.int .i64 0) ∧ LgAt w' bd (fun k => ok k ∨ w.heap.size ≤ k) g d { x with rs := rs } ∧ Kept w w' (fun k => k = g) ∧ Below bd w w' := by
  have H := Aside0.mk h
  have hAx : x.area = (x.y.E.length / 64 - 2) / 2 := rfl
  have hA : x.area ≤ 8192 := by obtain ⟨_, q⟩ := h.disk; have := q.fits.2.2.2; unfold Lg.area areaOf; omega
  have hE64 : x.y.E.length % 64 = 0 := by obtain ⟨_, q⟩ := h.disk; exact q.fits.2.1
  obtain ⟨fr, hfr⟩ : ∃ fr, fr = x.from x.nr := ⟨_, rfl⟩
  have hfi : 2 + (x.nr % 2) * (x.area : Int) = (fr : Int) := by
    have hm : x.nr % 2 = 0 ∨ x.nr % 2 = 1 := by omega
    rw [hfr]
    unfold Lg.from
    rcases hm with h | h <;> rw [h]
    · simp
    · simp
  have hfa : (fr + x.area) * 64 ≤ x.y.E.length := by
    have hm : x.nr % 2 = 0 ∨ x.nr % 2 = 1 := by omega
    rw [hfr]
    unfold Lg.from
    rcases hm with h | h <;> rw [h] <;> simp <;> omega
  rw [← hfr] at hp
  obtain ⟨okd, okl, v, h1, hdk, _⟩ := h
  have hc1 := (blk_cell h1 1).trans rfl
  have HD := Aside0.mk hdk
  have HOFF := Aside0.mk hoff
  have HP := Aside0.mk hp
  have HBD := Aside0.mk hbd
  have H1 := Aside0.mk h1
  have HFI := Aside0.mk hfi
  have HFA := Aside0.mk hfa
  have HSZ := Aside0.mk hsz
  have hls := Try.underlying94
  have HNR := Aside0.mk hnr
  clear h1 hdk hoff hp hbd hfr hfi hnr
  go_enter Try.func58, Try.ntmps58
  go_wp2_with fail
  refine (lg_from g _ HNR.out _ _ _ _ _ H.out).mono ?_
  rintro e' w' ⟨rfl, rfl⟩
  rw [HFI.out]
  go_wp2
  go_loopw [5, 6] (fun v5 v6 w' => ∃ (n : Nat) (bl : List Int), n * 64 < sz + 64 ∧ n ≤ x.area ∧ v6 = .int .i64 ((fr : Int) + (n : Int)) ∧ Aside0 (bl = (x.y.E.drop (fr * 64)).take (n * 64)) ∧ Aside0 ((Kd.int .u8).R 5 w' w.heap.size (fun _ => True) v5 bl) ∧ Aside0 (Below w.heap.size w w')) (fun _ v6 _ => (fr + x.area + 1) - (intOf v6).toNat)
  case atStart => exact ⟨0, [], by omega, Nat.zero_le _, (by rw [Int.natCast_zero, Int.add_zero]), ⟨by rw [Nat.zero_mul, List.take_zero]⟩, ⟨Kd.R_nil _ _ _ _ _⟩, ⟨Below.refl _ _⟩⟩
  case round =>
    clear hc1
    obtain ⟨n, bl, hn, hna, rfl, HBL, HR, HB⟩ := hrel
    have hbl : bl.length = n * 64 := by rw [HBL.out, List.length_take, List.length_drop]; omega
    obtain ⟨A, c, rfl, hc, hC⟩ := Kd.R_reads HR.out
    have HC := Aside0.mk hC
    have HCC := Aside0.mk hc
    clear hC
    have hc0 := (blk_cell (blk_below H1.out HB.out) 0).trans rfl
    by_cases hlt : (bl.length : Int) < (sz : Int)
    · have t1 : decide ((bl.length : Int) < (sz : Int)) = true := decide_eq_true hlt
      have t1' : decide (bl.length < sz) = true := decide_eq_true (by omega)
      have hrd : x.y.read ((fr : Int) + (n : Int)) = (sec x.y.E (fr + n), 0) := by
        unfold Dk.read
        rw [if_pos ⟨by omega, by omega⟩, if_neg (by rw [HOFF.out]; decide), show ((fr : Int) + (n : Int)).toNat = fr + n by omega]
      have HRD := Aside0.mk hrd
      have HSE : Aside0 ((fr + n + 1) * 64 ≤ x.y.E.length) := ⟨by omega⟩
      have HLS : Aside0 ((sec x.y.E (fr + n)).length = 64) := ⟨length_sec _ _ (by omega)⟩
      have HBLN := Aside0.mk hbl
      clear hrd hbl
      go_wp2_with fail
      refine (dk_Read d _ _ _ _ _ (HD.out.below HB.out)).mono ?_
      rintro e' w1 ⟨v1, rfl, hR1, hb⟩
      rw [HRD.out] at hR1
      rw [HRD.out]
      obtain ⟨A1, cc1, rfl, hc1, hC1⟩ := Kd.R_reads hR1
      have HC1 := Aside0.mk hC1
      have HR1 := Aside0.mk (Kd.R_below HR.out hb)
      have HB1 := Aside0.mk (below_step HB.out hb)
      clear hR1 hb hC1
      go_wp2_with (first | (at_builtin; refine Kd.R_append_row (Value.int .u8) (0 : Int) (h1 := fun _ => rfl) (w0 := w) w.heap.size rfl (.tmp 35) (.tmp 36) 30 5 (.int .u8 0) 1 rfl Try.underlying30 info5 rfl (by decide) (.slice A bl.length c) bl (sec x.y.E (fr + n)) A1 _ cc1 (fun _ => True) rfl rfl (fun _ _ => trivial) ?ho ?hr ?hb ?hs ?hl ?_; (case ho => exact HR1.out); (case hr => exact HC1.out); (case hb => exact HB1.out); (case hs => exact HB1.out.size); (case hl => rw [HLS.out, HBLN.out]; omega); intro v2 w2 hR2 hB2 hg2 hat2; have HR2 := Aside0.mk hR2; have HB2 := Aside0.mk hB2; clear hR2 hB2 hg2 hat2))
      go_roundw
      case rel => exact ⟨n + 1, _, by have := HBLN.out; omega, by have := HBLN.out; have := HSZ.out; omega, (by try go_num), ⟨by rw [HBL.out, sec_next _ _ _ HSE.out]⟩, HR2, HB2⟩
      case measure => simp [intOf]; omega
    · have t1 : decide ((bl.length : Int) < (sz : Int)) = false := decide_eq_false hlt
      have t1' : decide (bl.length < sz) = false := decide_eq_false (by omega)
      obtain ⟨i03, hi03, _, hsz3, _⟩ := info_parts info5
      obtain ⟨hcut3, hA3, hC3⟩ := print_take_of (P := Try.prog) (Value.int .u8) 0 30 5 .i64 Try.underlying30 hi03 hsz3 A c bl (sz : Int) (by omega) (by omega) HCC.out
      rw [Int.toNat_natCast] at hcut3
      have hlt2 : (bl.take sz).length = sz := by rw [List.length_take]; omega
      have hV : Kd.V (Kd.int .u8) 5 wr wr.heap.size (fun _ => True) (.slice A sz c) (bl.take sz) := Kd.R_V (Kd.R_mono (Kd.R_bound (Kd.R_take HR.out (m := sz) (by omega))) (ok' := fun _ => True) (fun _ _ => trivial))
      have hV : Kd.V (Kd.int .u8) 5 wr wr.heap.size (fun _ => True) (.slice A (min sz bl.length) c) (bl.take sz) := by rw [← List.length_take, hlt2]; exact hV
      have htk : bl.take sz = (x.y.E.drop (fr * 64)).take sz := by rw [HBL.out, List.take_take]; congr 1; omega
      have hpp := HP.out
      rw [← htk] at hpp
      have HV := Aside0.mk hV
      have HPP := Aside0.mk hpp
      clear hV hpp htk hlt2 hi03 hsz3 hA3 hC3 hc0 hbl
      go_wp2_with fail
      refine (lg_parse k A _ c (bl.take sz) rs true _ _ HV.out HPP.out).mono ?_
      rintro e' w1 ⟨v1, rfl, hS, hb⟩
      obtain ⟨Ar, cr, rfl⟩ := Kd.S_slice hS
      have HS := Aside0.mk hS
      have HB1 := Aside0.mk (below_step HB.out hb)
      have HWS : Aside0 (w.heap.size ≤ wr.heap.size) := ⟨HB.out.size⟩
      have h1 := blk_below H1.out HB1.out
      have hf2 := blk_frozen h1 2
      have hc2 := (blk_cell h1 2).trans rfl
      have HG1 := Aside0.mk h1
      clear hS hb h1
      go_wp2
      go_ret
      have hgl : g < w.heap.size := H.out.lt
      obtain ⟨okl, v0, _, _, _, hg8, hput⟩ := H.out.rows
      have hk : Kept w1 (w1.setCell ⟨g, 2, none⟩ (.slice Ar rs.length cr)) (fun k => k = g) := (Kept.refl w1 (fun k => k = g)).setCell (p := ⟨g, 2, none⟩) (.inl rfl) _
      have hS2 := Kd.S_mono (Kd.S_bound HS.out) (ok' := fun k => okl k ∨ w.heap.size ≤ k) (fun k hk => .inr (Nat.le_trans HWS.out hk.1))
      exact ⟨rfl, hput _ _ _ _ _ _ HB1.out hk (blk_set HG1.out 2 _) (Kd.R_lower (Kd.S_R hS2) (Nat.le_trans HBD.out HWS.out)), (Kept.of_below HB1.out _).then_ hk (fun k hk => .inl hk), (HB1.out.mono HBD.out).setCell (p := ⟨g, 2, none⟩) hg8 _⟩

end Go.Proofs.Ytpkhpfgojhojaaa.PLg

namespace Go.Proofs.Ytpkhpfgojhojaaa.PLg
open Go.RowKit Go.Proofs.YtpkhpfgojhojaaaW.PrintWords Go.Proofs.YtpkhpfgojhojaaaW.PrintLast Go.Proofs.YtpkhpfgojhojaaaW.PrintMore
attribute [local go_sem] max2_int min2_int max_two min_two max_three min_three max_four min_four
set_option linter.unusedVariables false
set_option linter.unusedSimpArgs false
-- FUNCTION: (*gangway/log.Log).write
-- IMPORT: Derived.Test.@N@WOwn
-- IMPORT: Derived.Test.@N@DCopymin
-- IMPORT: Derived.Test.@N@DLoad
-- IMPORT: Derived.Test.@N@DLgops
-- IMPORT: Derived.Test.@N@DWakes
def padTo (l : List Int) : List Int := splice (List.replicate 64 0) 0 l
theorem length_padTo (l : List Int) (h : l.length ≤ 64) : (padTo l).length = 64 := by
  unfold padTo
  rw [length_splice _ _ _ (by rw [List.length_replicate]; omega), List.length_replicate]
def wrL : Nat → Dk → Int → List Int → Dk × Int
  | 0, y, _, _ => (y, 0)
  | k + 1, y, i, b => if b.length = 0 then (y, 0) else if (y.write i (padTo (b.take 64))).2 ≠ 0 then y.write i (padTo (b.take 64)) else wrL k (y.write i (padTo (b.take 64))).1 (i + 1) (b.drop 64)
theorem write_len (y : Dk) (i : Int) (b : List Int) (hE : y.E.length % 64 = 0) : (y.write i b).1.E.length = y.E.length := by
  unfold Dk.write
  split
  · rename_i h
    split
    · rfl
    · show (splice y.E _ b).length = _
      exact length_splice _ _ _ (by omega)
  · rfl
/-- The disk below is written. -/
theorem LgAt.onDisk0 {w : World} {bd g d : Nat} {ok : Nat → Prop} {x : Lg} (h : LgAt w bd ok g d x) : ∃ okd, DkAt w bd okd d x.y ∧ (∀ k, okd k → ok k) ∧
    ∀ (w' : World) (y' : Dk), Kept w w' okd → DkAt w' bd okd d y' → LgAt w' bd ok g d { x with y := y' } := by
  obtain ⟨okd, okl, v0, h1, h2, h3, h4, h5, h6, h7, h8, h9, h10⟩ := h
  exact ⟨okd, h2, h9, fun w' y' hk hd => ⟨okd, okl, v0, blk_kept h1 hk h5, hd, Kd.R_kept h3 hk (fun k hk ho => h4 k ho hk), h4, h5, h6, h7, h8, h9, h10⟩⟩
theorem lg_dWrite {w : World} {bd g d : Nat} {ok : Nat → Prop} {x : Lg} (h : LgAt w bd ok g d x) (hbd : bd ≤ w.heap.size) (i : Int) (B : Option Addr) (n c : Nat) (b : List Int) (hn : n = b.length) (hC : (Kd.int .u8).C w B n b) (hB : ∀ ad, B = some ad → ¬ ok ad.block) :
    Calls Try.prog 15 #[.pointer (some ⟨d, 0, none⟩), .int .i64 i, .slice B n c] w fun e w' => e = .returned (.int .i64 (x.y.write i b).2) ∧ LgAt w' bd ok g d { x with y := (x.y.write i b).1 } ∧ Kept w w' ok ∧ Below bd w w' := by
  subst hn
  obtain ⟨okd, h1, h2, h3⟩ := h.onDisk0
  refine (dk_Write d i B c b w bd okd x.y h1 hbd hC (fun ad e hk => hB ad e (h2 _ hk))).mono ?_
  rintro e w' ⟨he, hd, hk, hb⟩
  exact ⟨he, h3 w' _ hk hd, hk.mono h2, hb⟩
set_option maxHeartbeats 8000000 in
set_option maxRecDepth 100000 in
theorem log_Log_write.walk (g : Nat) (w : World) (bd : Nat) (ok : Nat → Prop) (d : Nat) (x : Lg) (b : List Int) (h : LgAt w bd ok g d x) (hbd : bd ≤ w.heap.size) (hL : Lays x.rs b) (hnr : 0 ≤ x.nr ∧ x.nr < 9223372036854775807) :
    Calls Try.prog 61 #[.pointer (some ⟨g, 0, none⟩)] w fun e w' => e = .returned (.int .i64 (wrL (b.length + 1) x.y (x.from (x.nr + 1) : Nat) b).2) ∧ LgAt w' bd ok g d { x with y := (wrL (b.length + 1) x.y (x.from (x.nr + 1) : Nat) b).1 } ∧ Kept w w' ok ∧ Below bd w w' := by
  obtain ⟨⟨k1, hk1⟩, _, hlen, hm⟩ := hL
  have hA : x.area ≤ 8192 := by obtain ⟨_, q⟩ := h.disk; have := q.fits.2.2.2; unfold Lg.area areaOf; omega
  have hE64 : x.y.E.length % 64 = 0 := by obtain ⟨_, q⟩ := h.disk; exact q.fits.2.1
  obtain ⟨fr, hfr⟩ : ∃ fr, fr = x.from (x.nr + 1) := ⟨_, rfl⟩
  have hfi : 2 + ((x.nr + 1) % 2) * (x.area : Int) = (fr : Int) := by
    have hm : (x.nr + 1) % 2 = 0 ∨ (x.nr + 1) % 2 = 1 := by omega
    rw [hfr]
    unfold Lg.from
    rcases hm with h | h <;> rw [h] <;> simp
  have hfl : fr ≤ 10000 := by
    rcases (by omega : (x.nr + 1) % 2 = 0 ∨ (x.nr + 1) % 2 = 1) with h | h <;> rw [h] at hfi <;> omega
  rw [← hfr]
  obtain ⟨res, hres⟩ : ∃ res, res = wrL (b.length + 1) x.y (fr : Int) b := ⟨_, rfl⟩
  rw [← hres]
  have HRES := Aside0.mk hres
  clear hres
  obtain ⟨okl, v, hr, h1, hR⟩ := h.lgRows
  obtain ⟨A0, c0, rfl, hc, hC⟩ := Kd.R_reads hR
  have HC := Aside0.mk hC
  have HCC := Aside0.mk hc
  have HLA := Aside0.mk hk1
  have HBD := Aside0.mk hbd
  have HH := Aside0.mk h
  have HFI := Aside0.mk hfi
  have HE64 := Aside0.mk hE64
  have hbl : b.length ≤ 1000000 := by omega
  have hc1 := (blk_cell h1 1).trans rfl
  have hc2 := (blk_cell h1 2).trans rfl
  have hw1 : IntKind.u64.wrap (x.nr + 1) = x.nr + 1 := by show (x.nr + 1) % 18446744073709551616 = _; omega
  have H1 := Aside0.mk h1
  have HNR := Aside0.mk hnr
  have hls := Try.underlying94
  clear h hr hR hC hk1 hbd hfi hfr h1 hlen hm hnr hE64
  go_enter Try.func61, Try.ntmps61
  go_wp2_with fail
  refine (log_lay.calls k1 A0 c0 x.rs b _ HC.out HCC.out HLA.out).mono ?_
  rintro e' w1 ⟨vb, rfl, hRb, hb⟩
  obtain ⟨Ab, cb, rfl, hcb, hCb⟩ := Kd.R_reads hRb
  have HRB := Aside0.mk hRb
  have HCB := Aside0.mk hCb
  have HB1 := Aside0.mk hb
  have HL1 := Aside0.mk (HH.out.bound.below hb)
  have HAB : Aside0 (∀ ad, Ab = some ad → w.heap.size ≤ ad.block) := ⟨fun ad e => by subst e; exact Kd.R_base hRb ad.block rfl⟩
  have H11 := Aside0.mk (blk_below H1.out hb)
  have HCBL := Aside0.mk hcb
  clear hRb hb hCb hc1 hc2
  have hc1 := (blk_cell H11.out 1).trans rfl
  go_wp2_with fail
  refine (lg_from g (x.nr + 1) (by have := HNR.out; omega) _ _ _ _ _ HL1.out).mono ?_
  rintro e' w' ⟨rfl, rfl⟩
  rw [HFI.out]
  obtain ⟨z, hz, hmk, hR0⟩ := mk_zero 64 64 rfl (by decide)
  have HZ := Aside0.mk hz
  have HR0 := Aside0.mk hR0
  clear hz hR0 hc1 hw1
  obtain ⟨okb, hokb⟩ : ∃ okb : Nat → Prop, okb = (fun k => ok k ∧ k < w.heap.size) := ⟨_, rfl⟩
  rw [← hokb] at HL1
  have HOKB : Aside0 (∀ k, okb k → ok k ∧ k < w.heap.size) := ⟨fun k hk => by rw [hokb] at hk; exact hk⟩
  clear hokb
  go_wp2
  go_loopw [4, 5] (fun v4 v5 w' => ∃ (n : Nat) (y : Dk), n * 64 < b.length + 64 ∧ v4 = .int .i64 ((fr : Int) + (n : Int)) ∧ v5 = .int .i64 ((n : Int) * 64) ∧ Aside0 (wrL (b.length + 1 - n) y ((fr : Int) + (n : Int)) (b.drop (n * 64)) = res) ∧ Aside0 (y.E.length = x.y.E.length) ∧ Aside0 (LgAt w' bd okb g d { x with y := y }) ∧ Aside0 ((Kd.int .u8).C w' Ab b.length b) ∧ Aside0 (Kept w w' ok) ∧ Aside0 (Below bd w w')) (fun v4 _ _ => (fr + b.length + 1) - (intOf v4).toNat)
  case atStart => exact ⟨0, x.y, by omega, (by rw [Int.natCast_zero, Int.add_zero]), (by rw [Int.natCast_zero, Int.zero_mul]), ⟨by rw [Nat.zero_mul, List.drop_zero, Int.natCast_zero, Int.add_zero]; exact HRES.out.symm⟩, ⟨rfl⟩, HL1, HCB, ⟨Kept.of_below HB1.out _⟩, ⟨HB1.out.mono HBD.out⟩⟩
  case round =>
    obtain ⟨n, y, hn, rfl, rfl, HW, HEL, HLG, HC, HK, HB⟩ := hrel
    have HWS : Aside0 (w.heap.size ≤ wr.heap.size) := ⟨HB.out.size⟩
    by_cases hlt : n * 64 < b.length
    · have t1 : decide ((n : Int) * 64 < (b.length : Int)) = true := decide_eq_true (by omega)
      have hw := HW.out
      rw [show b.length + 1 - n = (b.length - n) + 1 by omega, wrL, if_neg (by rw [List.length_drop]; omega)] at hw
      obtain ⟨pb, hpb⟩ : ∃ pb, pb = padTo ((b.drop (n * 64)).take 64) := ⟨_, rfl⟩
      rw [← hpb] at hw
      obtain ⟨⟨y', cd⟩, hyw⟩ : ∃ q, q = y.write ((fr : Int) + (n : Int)) pb := ⟨_, rfl⟩
      rw [← hyw] at hw
      have HW2 := Aside0.mk hw
      have HPB := Aside0.mk hpb
      have HYW := Aside0.mk hyw
      have HLT := Aside0.mk hlt
      obtain ⟨i03, hi03, _, hsz3, _⟩ := info_parts info5
      obtain ⟨Ac, hcut, hAc⟩ := cut_C (P := Try.prog) 30 5 .i64 Try.underlying30 hi03 hsz3 Ab b.length cb (n * 64) (by omega)
      have e64 : ((n * 64 : Nat) : Int) = (n : Int) * 64 := by omega
      rw [e64] at hcut
      have HCUT := Aside0.mk hAc
      have HWR : Aside0 (Below wr.heap.size wr (wr.alloc (.cells (nums .u8 z).toArray 5))) := ⟨below_alloc (Below.refl _ _) _⟩
      have HSRC := Aside0.mk (hAc _ .u8 b HCBL.out (Kd.C_below HC.out HWR.out))
      have HRZ := Aside0.mk (HR0.out wr)
      have HPOS : Aside0 (0 < b.length - n * 64) := ⟨by omega⟩
      have HLBD : Aside0 ((b.drop (n * 64)).length = b.length - n * 64) := ⟨List.length_drop⟩
      have hP : splice z 0 ((b.drop (n * 64)).take 64) = pb := by rw [hpb, HZ.out]; rfl
      have HP := Aside0.mk hP
      have HPL : Aside0 (pb.length = 64) := ⟨by rw [hpb]; exact length_padTo _ (List.length_take_le _ _)⟩
      clear hw hpb hyw hlt hAc e64 hi03 hsz3 hP
      obtain ⟨w2, hrun, hR2, hg2⟩ := copy_run_min (P := Try.prog) (dLen := 64) (dCap := 64) (sCap := cb - n * 64) 30 30 3 Try.underlying30 (by kernel_rfl) HRZ.out HSRC.out HPOS.out (Nat.le_refl _)
      rw [HP.out] at hR2
      have HCX := Aside0.mk (Kd.R_reads' hR2).2.2
      have HG2 := Aside0.mk hg2
      have HB2 : Aside0 (Below wr.heap.size wr w2) := ⟨⟨hg2.os.trans HWR.out.os, hg2.tape.trans HWR.out.tape, hg2.output.trans HWR.out.output, Nat.le_trans HWR.out.size hg2.size, fun k hk => (hg2.block k (Nat.lt_of_lt_of_le hk HWR.out.size) (fun e => by injection e with e; omega)).trans (HWR.out.block k hk)⟩⟩
      have HXB : Aside0 (∀ ad, some (⟨wr.heap.size, 0, none⟩ : Addr) = some ad → ¬ okb ad.block) := ⟨fun ad e hk => by injection e with e; subst e; have h1 := (HOKB.out _ hk).2; have h2 := HWS.out; have h3 : (wr.heap.size : Nat) < w.heap.size := h1; omega⟩
      have HBDW : Aside0 (bd ≤ w2.heap.size) := ⟨Nat.le_trans HBD.out (Nat.le_trans HWS.out HB2.out.size)⟩
      have hpl := HPL.out
      clear hR2 hg2
      obtain ⟨_, _, v5, hg5, _⟩ := HLG.out
      have hc0 := (blk_cell (blk_below hg5 HB2.out) 0).trans rfl
      clear hg5
      have HCON : Aside0 (Calls Try.prog 15 #[.pointer (some ⟨d, 0, none⟩), .int .i64 ((fr : Int) + (n : Int)), .slice (some ⟨wr.heap.size, 0, none⟩) 64 64] w2 fun e w' => e = .returned (.int .i64 cd) ∧ LgAt w' bd okb g d { x with y := y' } ∧ Kept w2 w' okb ∧ Below bd w2 w') := ⟨by
        have h : Calls Try.prog 15 #[.pointer (some ⟨d, 0, none⟩), .int .i64 ((fr : Int) + (n : Int)), .slice (some ⟨wr.heap.size, 0, none⟩) 64 64] w2 fun e w' => e = .returned (.int .i64 (y.write ((fr : Int) + (n : Int)) pb).2) ∧ LgAt w' bd okb g d { x with y := (y.write ((fr : Int) + (n : Int)) pb).1 } ∧ Kept w2 w' okb ∧ Below bd w2 w' :=
          lg_dWrite (HLG.out.below HB2.out) HBDW.out ((fr : Int) + (n : Int)) (some ⟨wr.heap.size, 0, none⟩) 64 64 pb HPL.out.symm (by have := HCX.out; rw [HPL.out] at this; exact this) HXB.out
        rw [← HYW.out] at h
        exact h⟩
      have HEL3 : Aside0 (y'.E.length = x.y.E.length) := ⟨by
        have h1 := write_len y ((fr : Int) + (n : Int)) pb (by rw [HEL.out]; exact HE64.out)
        rw [← HYW.out] at h1
        exact h1.trans HEL.out⟩
      have HEND : Aside0 (∀ w3, LgAt w3 bd okb g d { x with y := y' } ∧ Kept w2 w3 okb ∧ Below bd w2 w3 → LgAt w3 bd okb g d { x with y := y' } ∧ (Kd.int .u8).C w3 Ab b.length b ∧ Kept w w3 ok ∧ Below bd w w3) := ⟨fun w3 ⟨hl, hk, hb⟩ =>
        ⟨hl, C_keptB (Kd.C_below HC.out HB2.out) hk (fun ad e h => by have h1 := HAB.out ad e; have h2 := (HOKB.out _ h).2; omega), (HK.out.then_ (Kept.of_below HB2.out (fun _ => False)) (fun k hk => hk.elim)).then_ (hk.mono (fun k hk => (HOKB.out k hk).1)) (fun k hk => .inl hk), (HB.out.trans (HB2.out.mono (Nat.le_trans HBD.out HWS.out))).trans hb⟩⟩
      by_cases hcd : cd = 0
      · subst hcd
        go_wp2_with fail
        refine HCON.out.mono ?_
        rintro e' w3 ⟨rfl, h3⟩
        obtain ⟨hl, hC3, hK3, hB3⟩ := HEND.out w3 h3
        have HL3 := Aside0.mk hl
        have HC3 := Aside0.mk hC3
        have HK3 := Aside0.mk hK3
        have HB3 := Aside0.mk hB3
        clear h3 hl hC3 hK3 hB3 hc0 hrun hpl
        go_wp2
        go_roundw
        case rel =>
          refine ⟨n + 1, y', by have := HLT.out; omega, (by try go_num), (by try go_num), ⟨?_⟩, HEL3, HL3, HC3, HK3, HB3⟩
          have h := HW2.out
          rw [if_neg (fun h => h rfl)] at h
          rw [show b.length + 1 - (n + 1) = b.length - n by omega, show (n + 1) * 64 = n * 64 + 64 by omega, ← List.drop_drop, ← h]
          try (congr 1; done)
          try (congr 1; omega)
        case measure => simp [intOf]; omega
      · have t5 : (cd != 0) = true := by simpa using hcd
        have HCD := Aside0.mk hcd
        clear hcd
        go_wp2_with fail
        refine HCON.out.mono ?_
        rintro e' w3 ⟨rfl, h3⟩
        obtain ⟨hl, hC3, hK3, hB3⟩ := HEND.out w3 h3
        have HL3 := Aside0.mk hl
        have HK3 := Aside0.mk hK3
        have HB3 := Aside0.mk hB3
        clear h3 hl hC3 hK3 hB3 hc0 hrun hpl
        go_wp2
        go_ret
        have h := HW2.out
        rw [if_pos HCD.out] at h
        rw [← h]
        exact ⟨rfl, HL3.out.mono (fun k hk => (HOKB.out k hk).1), HK3.out, HB3.out⟩
    · have t1 : decide ((n : Int) * 64 < (b.length : Int)) = false := decide_eq_false (by omega)
      have hw := HW.out
      rw [show b.length + 1 - n = (b.length - n) + 1 by omega, wrL, if_pos (by rw [List.length_drop]; omega)] at hw
      have HW2 := Aside0.mk hw
      clear hw hlt
      go_wp2
      go_ret
      rw [← HW2.out]
      exact ⟨rfl, HLG.out.mono (fun k hk => (HOKB.out k hk).1), HK.out, HB.out⟩

end Go.Proofs.Ytpkhpfgojhojaaa.PLg

namespace Go.Proofs.Ytpkhpfgojhojaaa.PLg
open Go.RowKit Go.Proofs.YtpkhpfgojhojaaaW.PrintWords Go.Proofs.YtpkhpfgojhojaaaW.PrintLast Go.Proofs.YtpkhpfgojhojaaaW.PrintMore
attribute [local go_sem] max2_int min2_int max_two min_two max_three min_three max_four min_four   -- for this text's walks alone
set_option linter.unusedVariables false
set_option linter.unusedSimpArgs false

-- NOT PRINTED: function 59 (log_Log_become)

-- NOT PRINTED: function 60 (slices_Clone_byte_byte_60)

-- NOT PRINTED: function 37 (log_Log_Append)

-- NOT PRINTED: function 49 (disk_Disk_keep)

-- NOT PRINTED: function 50 (disk_Disk_stroke)

-- NOT PRINTED: function 12 (disk_Disk_Flush)

-- NOT PRINTED: function 53 (disk_Disk_Write_1)

-- NOT PRINTED: function 15 (disk_Disk_Write)

-- NOT PRINTED: function 61 (log_Log_write)

/-! ### log_head: function 71 -/
def log_head.f (k : Nat) (a0 : Int) (a1 : Int) : Option (List Int) := (log_put.f k ([] : List Int) 1734438503).bind fun t158 => ((log_put.f k t158 a0).bind fun t161 => ((log_put.f k t161 (IntKind.u64.wrap (a1))).bind fun t164 => ((log_sum.f k t164).bind fun t167 => ((log_put.f k t164 t167).bind fun t168 => (if 0 ≤ (wrap64 (64 - (t168.length : Int))) then (if t168.length + (wrap64 (64 - (t168.length : Int)) : Int).toNat < 140737488355328 then (some (t168 ++ List.replicate (wrap64 (64 - (t168.length : Int)) : Int).toNat 0)) else (none)) else (none))))))
theorem log_head.mono : ∀ a0 a1 k, LeO (log_head.f k a0 a1) (log_head.f (k + 1) a0 a1) := by
  intro a0 a1 k
  unfold log_head.f
  repeat' first
      | (with_reducible exact log_put.mono _ _ _)
      | (with_reducible exact log_sum.mono _ _)
      | (with_reducible exact LeO.refl _)
      | (with_reducible exact LeO.none _)
      | (with_reducible refine LeO.ite ?_ ?_)
      | (with_reducible refine LeO.bind ?_ (fun _ => ?_))
      | exact log_put.mono _ _ _
      | exact log_sum.mono _ _
      | exact LeO.none _
      | refine LeO.ite ?_ ?_
      | refine LeO.bind ?_ (fun _ => ?_)
set_option maxHeartbeats 8000000 in
set_option maxRecDepth 100000 in
theorem log_head.calls (k : Nat) (a0 : Int) (a1 : Int) (r : List Int) (w : World) (h : log_head.f k a0 a1 = some r) :
    Calls Try.prog 71 #[.int .u64 a0, .int .i64 a1] w fun e w' => ∃ v0_ : Value, e = .returned (v0_) ∧ Kd.R (Kd.int .u8) 5 w' w.heap.size (fun _ => True) v0_ r ∧ Below w.heap.size w w' := by
  have HB := Aside0.mk (Below.refl w.heap.size w)
  have H : ((log_put.f k ([] : List Int) 1734438503).bind fun t158 => ((log_put.f k t158 a0).bind fun t161 => ((log_put.f k t161 (IntKind.u64.wrap (a1))).bind fun t164 => ((log_sum.f k t164).bind fun t167 => ((log_put.f k t164 t167).bind fun t168 => (if 0 ≤ (wrap64 (64 - (t168.length : Int))) then (if t168.length + (wrap64 (64 - (t168.length : Int)) : Int).toNat < 140737488355328 then (some (t168 ++ List.replicate (wrap64 (64 - (t168.length : Int)) : Int).toNat 0)) else (none)) else (none))))))) = some r := h
  clear h
  replace H := Option.bind_eq_some_iff.mp H
  obtain ⟨t158, A30, H⟩ := H
  replace H : ((log_put.f k t158 a0).bind fun t161 => ((log_put.f k t161 (IntKind.u64.wrap (a1))).bind fun t164 => ((log_sum.f k t164).bind fun t167 => ((log_put.f k t164 t167).bind fun t168 => (if 0 ≤ (wrap64 (64 - (t168.length : Int))) then (if t168.length + (wrap64 (64 - (t168.length : Int)) : Int).toNat < 140737488355328 then (some (t168 ++ List.replicate (wrap64 (64 - (t168.length : Int)) : Int).toNat 0)) else (none)) else (none)))))) = some r := H
  have A3 := Aside0.mk A30
  clear A30
  replace H := Option.bind_eq_some_iff.mp H
  obtain ⟨t161, A40, H⟩ := H
  replace H : ((log_put.f k t161 (IntKind.u64.wrap (a1))).bind fun t164 => ((log_sum.f k t164).bind fun t167 => ((log_put.f k t164 t167).bind fun t168 => (if 0 ≤ (wrap64 (64 - (t168.length : Int))) then (if t168.length + (wrap64 (64 - (t168.length : Int)) : Int).toNat < 140737488355328 then (some (t168 ++ List.replicate (wrap64 (64 - (t168.length : Int)) : Int).toNat 0)) else (none)) else (none))))) = some r := H
  have A4 := Aside0.mk A40
  clear A40
  replace H := Option.bind_eq_some_iff.mp H
  obtain ⟨t164, A50, H⟩ := H
  replace H : ((log_sum.f k t164).bind fun t167 => ((log_put.f k t164 t167).bind fun t168 => (if 0 ≤ (wrap64 (64 - (t168.length : Int))) then (if t168.length + (wrap64 (64 - (t168.length : Int)) : Int).toNat < 140737488355328 then (some (t168 ++ List.replicate (wrap64 (64 - (t168.length : Int)) : Int).toNat 0)) else (none)) else (none)))) = some r := H
  have A5 := Aside0.mk A50
  clear A50
  replace H := Option.bind_eq_some_iff.mp H
  obtain ⟨t167, A60, H⟩ := H
  replace H : ((log_put.f k t164 t167).bind fun t168 => (if 0 ≤ (wrap64 (64 - (t168.length : Int))) then (if t168.length + (wrap64 (64 - (t168.length : Int)) : Int).toNat < 140737488355328 then (some (t168 ++ List.replicate (wrap64 (64 - (t168.length : Int)) : Int).toNat 0)) else (none)) else (none))) = some r := H
  have A6 := Aside0.mk A60
  clear A60
  replace H := Option.bind_eq_some_iff.mp H
  obtain ⟨t168, A70, H⟩ := H
  replace H : (if 0 ≤ (wrap64 (64 - (t168.length : Int))) then (if t168.length + (wrap64 (64 - (t168.length : Int)) : Int).toNat < 140737488355328 then (some (t168 ++ List.replicate (wrap64 (64 - (t168.length : Int)) : Int).toNat 0)) else (none)) else (none)) = some r := H
  have A7 := Aside0.mk A70
  clear A70
  obtain ⟨ji8, hji8⟩ : ∃ j_ : Int, (wrap64 (64 - (t168.length : Int))) = j_ := ⟨_, rfl⟩
  replace H : (if 0 ≤ (ji8) then (if t168.length + (ji8 : Int).toNat < 140737488355328 then (some (t168 ++ List.replicate (ji8 : Int).toNat 0)) else (none)) else (none)) = some r := by first | (rw [hji8] at H; exact H) | (simp only [hji8] at H ⊢; exact H)
  (try rw [hji8] at A3)
  (try rw [hji8] at A4)
  (try rw [hji8] at A5)
  (try rw [hji8] at A6)
  (try rw [hji8] at A7)
  have hji8w : (IntKind.i64.wrap (64 - (t168.length : Int))) = ji8 := (i64_w _).trans hji8
  by_cases c9 : 0 ≤ (ji8)
  · rw [if_pos c9] at H
    have c9b0 := eq_true c9
    have c9b1 : decide (0 ≤ (ji8)) = true := decide_eq_true c9
    clear c9
    by_cases c10 : t168.length + (ji8 : Int).toNat < 140737488355328
    · rw [if_pos c10] at H
      have LMc10 := Aside0.mk c10
      clear c10
      obtain ⟨y171, hy171⟩ : ∃ y_ : List Int, y_ = (t168 ++ List.replicate (ji8 : Int).toNat 0) := ⟨_, rfl⟩
      replace H : (some y171) = some r := by first | (rw [hy171]; with_reducible exact H) | (have H2_ := (Option.bind_some _ _).symm.trans H; rw [hy171]; with_reducible exact H2_) | (have H2_ := (Option.bind_some _ _).symm.trans H; with_reducible exact H2_) | with_reducible exact H | (rw [hy171]; exact H) | exact H
      have Ny171 := Aside0.mk hy171
      clear hy171
      obtain rfl := Option.some.inj H
      go_enter Try.func71, Try.ntmps71
      go_wp2_with (first | ((with_reducible refine gate_callee (f := 72) rfl ?_); refine goesL_ (some 6) rfl rfl Try.func72 (by kernel_rfl) rfl #[.slice none 0 0, .int .u64 1734438503] rfl (by (try simp only [List.map_toArray, List.map_cons, List.map_nil]); first | done | rfl | (simp only [List.length_drop, List.length_take]; rfl)) ?_; (refine (log_put.calls k (fun k_ => some k_ = (.slice none 0 0 : Value).ownBlock) (.slice none 0 0) ([] : List Int) 1734438503 t158 w _ ?side1 ?side2 A3.out).mono ?_); (case side1 => repeat (first | (with_reducible first | exact HB.out | apply below_alloc | apply pw_below_drewN | apply below_drew1) | exact HB.out)); (case side2 => exact Kd.R_nil _ _ _ _ _); rintro e w11 ⟨v159, rfl, ho0, hb, hkp⟩; refine ⟨_, rfl, ?_⟩; have n0_ := Aside0.mk (Kd.R_mono (ok' := fun k_ => True) ho0 (fun k_ hk_ => trivial)); have n1_ := Aside0.mk (hb); clear HB; have HO160 := n0_; have HB := n1_; clear n0_ n1_; (try clear hb); (try clear hkp); (try clear ho0); obtain ⟨Ao12, co12, eo12⟩ := Kd.R_slice HO160.out; subst eo12) | ((with_reducible refine gate_callee (f := 72) rfl ?_); refine goesL_ (some 8) rfl rfl Try.func72 (by kernel_rfl) rfl #[.slice Ao12 t158.length co12, .int .u64 a0] rfl (by (try simp only [List.map_toArray, List.map_cons, List.map_nil]); first | done | rfl | (simp only [List.length_drop, List.length_take]; rfl)) ?_; (with_reducible refine (log_put.calls k (fun k_ => some k_ = (.slice Ao12 t158.length co12 : Value).ownBlock) (.slice Ao12 t158.length co12) t158 a0 t161 w _ ?side1 ?side2 A4.out).mono ?_); (case side1 => repeat (first | (with_reducible first | exact HB.out | apply below_alloc | apply pw_below_drewN | apply below_drew1) | exact HB.out)); (case side2 => exact Kd.R_tight rfl HO160.out); rintro e w13 ⟨v162, rfl, ho0, hb, hkp⟩; refine ⟨_, rfl, ?_⟩; have n0_ := Aside0.mk (Kd.R_mono (ok' := fun k_ => True) ho0 (fun k_ hk_ => trivial)); have n1_ := Aside0.mk (hb); clear HB; clear HO160; have HO163 := n0_; have HB := n1_; clear n0_ n1_; (try clear hb); (try clear hkp); (try clear ho0); obtain ⟨Ao14, co14, eo14⟩ := Kd.R_slice HO163.out; subst eo14) | ((with_reducible refine gate_callee (f := 72) rfl ?_); refine goesL_ (some 11) rfl rfl Try.func72 (by kernel_rfl) rfl #[.slice Ao14 t161.length co14, .int .u64 (IntKind.u64.wrap (a1))] rfl (by (try simp only [List.map_toArray, List.map_cons, List.map_nil]); first | done | rfl | (simp only [List.length_drop, List.length_take]; rfl)) ?_; (with_reducible refine (log_put.calls k (fun k_ => some k_ = (.slice Ao14 t161.length co14 : Value).ownBlock) (.slice Ao14 t161.length co14) t161 (IntKind.u64.wrap (a1)) t164 w _ ?side1 ?side2 A5.out).mono ?_); (case side1 => repeat (first | (with_reducible first | exact HB.out | apply below_alloc | apply pw_below_drewN | apply below_drew1) | exact HB.out)); (case side2 => exact Kd.R_tight rfl HO163.out); rintro e w15 ⟨v165, rfl, ho0, hb, hkp⟩; refine ⟨_, rfl, ?_⟩; have n0_ := Aside0.mk (Kd.R_mono (ok' := fun k_ => True) ho0 (fun k_ hk_ => trivial)); have n1_ := Aside0.mk (hb); clear HB; clear HO163; have HO166 := n0_; have HB := n1_; clear n0_ n1_; (try clear hb); (try clear hkp); (try clear ho0); obtain ⟨Ao16, co16, eo16⟩ := Kd.R_slice HO166.out; subst eo16) | ((with_reducible refine gate_callee (f := 66) rfl ?_); refine goesL_ (some 14) rfl rfl Try.func66 (by kernel_rfl) rfl #[.slice Ao16 t164.length co16] rfl (by (try simp only [List.map_toArray, List.map_cons, List.map_nil]); first | done | rfl | (simp only [List.length_drop, List.length_take]; rfl)) ?_; (with_reducible refine (log_sum.calls k _ _ t164 t167 _ ?side1 ?side2 A6.out).mono ?_); (case side1 => repeat (first | exact (Kd.R_reads' HO166.out).2.2 | (with_reducible refine Kd.C_alloc ?_ _) | (with_reducible refine Kd.C_drewN ?_ _) | (with_reducible refine Kd.C_drew ?_))); (case side2 => exact (Kd.R_reads' HO166.out).2.1); rintro e w' ⟨rfl, ⟨nd, rfl⟩⟩; refine ⟨_, rfl, ?_⟩) | ((with_reducible refine gate_callee (f := 72) rfl ?_); refine goesL_ (some 15) rfl rfl Try.func72 (by kernel_rfl) rfl #[.slice Ao16 t164.length co16, .int .u64 t167] rfl (by (try simp only [List.map_toArray, List.map_cons, List.map_nil]); first | done | rfl | (simp only [List.length_drop, List.length_take]; rfl)) ?_; (with_reducible refine (log_put.calls k (fun k_ => some k_ = (.slice Ao16 t164.length co16 : Value).ownBlock) (.slice Ao16 t164.length co16) t164 t167 t168 w _ ?side1 ?side2 A7.out).mono ?_); (case side1 => repeat (first | (with_reducible first | exact HB.out | apply below_alloc | apply pw_below_drewN | apply below_drew1) | exact HB.out)); (case side2 => exact Kd.R_tight rfl HO166.out); rintro e w17 ⟨v169, rfl, ho0, hb, hkp⟩; refine ⟨_, rfl, ?_⟩; have n0_ := Aside0.mk (Kd.R_mono (ok' := fun k_ => True) ho0 (fun k_ hk_ => trivial)); have n1_ := Aside0.mk (hb); clear HB; clear HO166; have HO170 := n0_; have HB := n1_; clear n0_ n1_; (try clear hb); (try clear hkp); (try clear ho0); obtain ⟨Ao18, co18, eo18⟩ := Kd.R_slice HO170.out; subst eo18) | (at_builtin; refine Kd.R_append_zeros (Kd.int .u8) (w0 := w) w.heap.size rfl (.tmp 16) (.tmp 19) 30 3 5 (.int .u8 0) 1 rfl Try.underlying30 Try.underlying3 info5 rfl (by decide) (by omega) (.slice Ao18 t168.length co18) t168 0 (ji8 : Int) (fun _ => True) rfl rfl rfl ?aF ?aO (of_decide_eq_true (by first | (with_reducible assumption) | assumption)) ?aB ?aS ?aL ?_; (case aB => exact (by repeat (first | (with_reducible first | exact HB.out | apply below_alloc | apply pw_below_drewN | apply below_drew1) | exact HB.out))); (case aF => exact (fun _ _ => trivial)); (case aO => exact (by (with_reducible repeat (first | apply Kd.R_alloc | apply Kd.R_drewN | apply Kd.R_drew)); exact HO170.out)); (case aS => exact (below_size (by repeat (first | (with_reducible first | exact HB.out | apply below_alloc | apply pw_below_drewN | apply below_drew1) | exact HB.out)))); (case aL => have := LMc10.out; omega); intro v172 w19 ho hb hg hat; rw [← Ny171.out] at ho; have n0_ := Aside0.mk (hb); have n1_ := Aside0.mk (ho); clear HB; clear HO170; have HB := n0_; have HO173 := n1_; clear n0_ n1_; clear ho hb hg hat))
      go_ret
      exact ⟨_, by first | rfl | (simp [errW_none, errW_some] <;> rfl) | (simp only [← hji8]; first | rfl | (simp [errW_none, errW_some] <;> rfl)) | (simp [*, errW_none, errW_some] <;> rfl), by (with_reducible repeat (first | apply Kd.R_alloc | apply Kd.R_drewN | apply Kd.R_drew)); exact HO173.out, by repeat (first | (with_reducible first | exact HB.out | apply below_alloc | apply pw_below_drewN | apply below_drew1) | exact HB.out)⟩
    · rw [if_neg c10] at H
      exact absurd H (by simp)
  · rw [if_neg c9] at H
    exact absurd H (by simp)

-- NOT PRINTED: function 62 (log_Log_point)

-- NOT PRINTED: function 38 (log_Log_Sync)

end Go.Proofs.Ytpkhpfgojhojaaa.PLg

namespace Go.Proofs.Ytpkhpfgojhojaaa.PLg
open Go.RowKit Go.Proofs.YtpkhpfgojhojaaaW.PrintWords Go.Proofs.YtpkhpfgojhojaaaW.PrintLast Go.Proofs.YtpkhpfgojhojaaaW.PrintMore
attribute [local go_sem] max2_int min2_int max_two min_two max_three min_three max_four min_four
set_option linter.unusedVariables false
set_option linter.unusedSimpArgs false
-- FUNCTION: (*gangway/log.Log).point
-- IMPORT: Derived.Test.@N@WOwn
-- IMPORT: Derived.Test.@N@DLgwrite
/-- A row made since is written to the disk below; the struct's own block is as it was. -/
theorem lg_dWriteG {w0 w2 w : World} {bd g d : Nat} {ok : Nat → Prop} {x : Lg} (h : LgAt w0 bd ok g d x) (hb0 : Below w0.heap.size w0 w) (hle : w0.heap.size ≤ w2.heap.size) (hbd : bd ≤ w0.heap.size) (i : Int) (A : Option Addr) (c : Nat) (b : List Int) (hR : (Kd.int .u8).R 5 w w2.heap.size (fun _ => True) (.slice A b.length c) b) :
    Calls Try.prog 15 #[.pointer (some ⟨d, 0, none⟩), .int .i64 i, .slice A b.length c] w fun e w' => e = .returned (.int .i64 (x.y.write i b).2) ∧ LgAt w' bd ok g d { x with y := (x.y.write i b).1 } ∧ Kept w0 w' ok ∧ Below bd w0 w' ∧ w'.heap[g]? = w0.heap[g]? := by
  have hgl := h.lt
  have hb1 := h.bound.below hb0
  obtain ⟨okd, okl, v0, h1, h2, h3, h4, h5, h6, h7, h8, h9, h10⟩ := hb1
  obtain ⟨_, _, hC⟩ := Kd.R_reads' hR
  refine (dk_Write d i A c b w bd okd x.y h2 (Nat.le_trans hbd hb0.size) hC (fun ad e hk => ?_)).mono ?_
  · subst e
    have q1 := (h9 _ hk).2
    have q2 := Kd.R_base hR ad.block rfl
    omega
  · rintro e w' ⟨he, hd, hk, hb⟩
    have hl : LgAt w' bd (fun k => ok k ∧ k < w0.heap.size) g d { x with y := (x.y.write i b).1 } := ⟨okd, okl, v0, blk_kept h1 hk h5, hd, Kd.R_kept h3 hk (fun k hk ho => h4 k ho hk), h4, h5, h6, h7, h8, h9, h10⟩
    exact ⟨he, hl.mono (fun k hk => hk.1), (Kept.of_below hb0 ok).then_ hk (fun k hk => .inl (h9 k hk).1), (hb0.mono hbd).trans hb, (hk.2 g (Nat.lt_of_lt_of_le hgl hb0.size) h5).trans (hb0.block g hgl)⟩
set_option maxHeartbeats 8000000 in
set_option maxRecDepth 100000 in
theorem log_Log_point.walk (k2 g : Nat) (w : World) (bd : Nat) (ok : Nat → Prop) (d : Nat) (x : Lg) (b hd : List Int) (h : LgAt w bd ok g d x) (hbd : bd ≤ w.heap.size) (hL : Lays x.rs b) (hnr : 0 ≤ x.nr ∧ x.nr < 9223372036854775807) (hhd : log_head.f k2 (x.nr + 1) b.length = some hd) :
    Calls Try.prog 62 #[.pointer (some ⟨g, 0, none⟩)] w fun e w' => e = .returned (.int .i64 (x.y.write ((x.nr + 1) % 2) hd).2) ∧ LgAt w' bd ok g d { x with y := (x.y.write ((x.nr + 1) % 2) hd).1 } ∧ Kept w w' ok ∧ Below bd w w' := by
  obtain ⟨⟨k1, hk1⟩, _, hlen, hm⟩ := hL
  obtain ⟨okl, v, hr, h1, hR⟩ := h.lgRows
  obtain ⟨A0, c0, rfl, hc, hC⟩ := Kd.R_reads hR
  have HHD := Aside0.mk hhd
  have HCE : Aside0 (∀ W : World, W.heap[g]? = w.heap[g]? → W.cell? ⟨g, 0, none⟩ = some (.pointer (some ⟨d, 0, none⟩)) ∧ W.cell? ⟨g, 2, none⟩ = some (.slice A0 x.rs.length c0)) := ⟨fun W hW => ⟨(blk_cell (hW.trans h1) 0).trans rfl, (blk_cell (hW.trans h1) 2).trans rfl⟩⟩
  have HQB : Aside0 (∀ W : World, Below w.heap.size w W → W.heap[g]? = w.heap[g]?) := ⟨fun W hW => hW.block g h.lt⟩
  have HLAY : Aside0 (∀ W : World, Below w.heap.size w W → Calls Try.prog 70 #[.slice A0 x.rs.length c0] W fun e w' => ∃ v0_ : Value, e = .returned v0_ ∧ Kd.R (Kd.int .u8) 5 w' W.heap.size (fun _ => True) v0_ b ∧ Below W.heap.size W w') := ⟨fun W hW => log_lay.calls k1 A0 c0 x.rs b W (Kd.C_below hC hW) hc hk1⟩
  have HWR : Aside0 (∀ (W2 W : World) (A3 : Option Addr) (c3 : Nat), Below w.heap.size w W2 → Below w.heap.size w W → (∀ {n : Nat}, True) → True) := ⟨fun _ _ _ _ _ _ _ => trivial⟩
  clear HWR
  have HWR : Aside0 (∀ (W2 : World) (W : World) (q : Option Addr × Nat), Below w.heap.size w W2 → Below w.heap.size w W → (Kd.int .u8).R 5 W W2.heap.size (fun _ => True) (.slice q.1 hd.length q.2) hd → Calls Try.prog 15 #[.pointer (some ⟨d, 0, none⟩), .int .i64 (wrap64 ((x.nr + 1).tmod 2)), .slice q.1 hd.length q.2] W fun e w' => e = .returned (.int .i64 (x.y.write ((x.nr + 1) % 2) hd).2) ∧ LgAt w' bd ok g d { x with y := (x.y.write ((x.nr + 1) % 2) hd).1 } ∧ Kept w w' ok ∧ Below bd w w' ∧ w'.heap[g]? = w.heap[g]?) := ⟨fun W2 W q hW2 hW hq => by
    rw [show wrap64 ((x.nr + 1).tmod 2) = (x.nr + 1) % 2 by rw [Int.tmod_eq_emod_of_nonneg (by omega)]; exact w64 _ (by omega)]
    exact lg_dWriteG h hW hW2.size hbd _ _ _ _ hq⟩
  have hc1 := (blk_cell h1 1).trans rfl
  have hw1 : IntKind.u64.wrap (x.nr + 1) = x.nr + 1 := by show (x.nr + 1) % 18446744073709551616 = _; omega
  have hbl : b.length ≤ 1000000 := by omega
  have hls := Try.underlying94
  have hn0 := hnr.1
  have e2 : wrap64 ((x.nr + 1) % 2) = (x.nr + 1) % 2 := w64 _ (by omega)
  clear h hr hR hC hk1 hbd h1 hlen hm hnr hhd
  go_enter Try.func62, Try.ntmps62
  go_upto_region 2 with (fail)
  have HQ0 : Aside0 (Below w.heap.size w w.drew) := ⟨below_drew (Below.refl _ _)⟩
  refine start_ (n := 17) (S := fun w' => w'.cell? ⟨g, 0, none⟩ = some (.pointer (some ⟨d, 0, none⟩)) ∧ w'.cell? ⟨g, 2, none⟩ = some (.slice A0 x.rs.length c0)) (ds := []) #[false, false, false, false, false, false, false, false, false, false, false, false, false, false, false, false, false] (by kernel_rfl) rfl rfl ⟨(HCE.out _ (HQB.out _ HQ0.out)).1, (HCE.out _ (HQB.out _ HQ0.out)).2⟩ (fun hHeld => ?_)
  refine pure_ (i := 0) (N := some 9) (v := ?_) (a' := ?_) #[true, false, false, false, false, false, false, false, false, false, false, false, false, false, false, false, false] rfl rfl (by kernel_rfl) (fun _ _ _ h => h) (Or.inl ⟨by rfl, ?_⟩) ?_ ?_
  rotate_left
  · intro w'
    go_simp
    with_reducible rfl
  rotate_left
  · simp only [Act.put, List.setIfInBounds_toArray, List.set_cons_zero, List.set_cons_succ, i64_w, i32_w]
    rfl
  refine pure_ (i := 1) (N := some 10) (v := ?_) (a' := ?_) #[true, true, false, false, false, false, false, false, false, false, false, false, false, false, false, false, false] rfl rfl (by kernel_rfl) (fun _ _ _ h => h) (Or.inl ⟨by rfl, ?_⟩) ?_ ?_
  rotate_left
  · intro w'
    go_simp
    with_reducible rfl
  rotate_left
  · simp only [Act.put, List.setIfInBounds_toArray, List.set_cons_zero, List.set_cons_succ, i64_w, i32_w]
    rfl
  refine pure_ (i := 2) (N := some 11) (v := ?_) (a' := ?_) #[true, true, true, false, false, false, false, false, false, false, false, false, false, false, false, false, false] rfl rfl (by kernel_rfl) (fun _ _ _ h => h) (Or.inl ⟨by rfl, ?_⟩) ?_ ?_
  rotate_left
  · intro w'
    go_simp
    with_reducible rfl
  rotate_left
  · simp only [Act.put, List.setIfInBounds_toArray, List.set_cons_zero, List.set_cons_succ, i64_w, i32_w]
    rfl
  refine pure_ (i := 4) (N := some 13) (v := ?_) (a' := ?_) #[true, true, true, false, true, false, false, false, false, false, false, false, false, false, false, false, false] rfl rfl (by kernel_rfl) (fun _ _ _ h => h) (Or.inl ⟨by rfl, ?_⟩) ?_ ?_
  rotate_left
  · intro w'
    go_simp
    with_reducible rfl
  rotate_left
  · simp only [Act.put, List.setIfInBounds_toArray, List.set_cons_zero, List.set_cons_succ, i64_w, i32_w]
    rfl
  refine pure_ (i := 5) (N := some 14) (v := ?_) (a' := ?_) #[true, true, true, false, true, true, false, false, false, false, false, false, false, false, false, false, false] rfl rfl (by kernel_rfl) (fun _ _ _ h => h) (Or.inl ⟨by rfl, ?_⟩) ?_ ?_
  rotate_left
  · intro w'
    go_simp
    with_reducible rfl
  rotate_left
  · simp only [Act.put, List.setIfInBounds_toArray, List.set_cons_zero, List.set_cons_succ, i64_w, i32_w]
    rfl
  refine pure_ (i := 6) (N := some 15) (v := ?_) (a' := ?_) #[true, true, true, false, true, true, true, false, false, false, false, false, false, false, false, false, false] rfl rfl (by kernel_rfl) (fun _ _ _ h => h) (Or.inl ⟨by rfl, ?_⟩) ?_ ?_
  rotate_left
  · intro w'
    go_simp
    with_reducible rfl
  rotate_left
  · simp only [Act.put, List.setIfInBounds_toArray, List.set_cons_zero, List.set_cons_succ, i64_w, i32_w]
    rfl
  refine pure_ (i := 7) (N := some 16) (v := ?_) (a' := ?_) #[true, true, true, false, true, true, true, true, false, false, false, false, false, false, false, false, false] rfl rfl (by kernel_rfl) (fun _ _ _ h => h) (Or.inl ⟨by rfl, ?_⟩) ?_ ?_
  rotate_left
  · intro w'
    go_simp
    with_reducible rfl
  rotate_left
  · simp only [Act.put, List.setIfInBounds_toArray, List.set_cons_zero, List.set_cons_succ, i64_w, i32_w]
    rfl
  refine pure_ (i := 8) (N := some 17) (v := ?_) (a' := ?_) #[true, true, true, false, true, true, true, true, true, false, false, false, false, false, false, false, false] rfl rfl (by kernel_rfl) (fun _ _ _ h => h) (Or.inl ⟨by rfl, ?_⟩) ?_ ?_
  rotate_left
  · intro w'
    go_simp
    with_reducible rfl
  rotate_left
  · simp only [Act.put, List.setIfInBounds_toArray, List.set_cons_zero, List.set_cons_succ, i64_w, i32_w]
    rfl
  refine pure_ (i := 9) (N := some 18) (v := ?_) (a' := ?_) #[true, true, true, false, true, true, true, true, true, true, false, false, false, false, false, false, false] rfl rfl (by kernel_rfl) (fun _ _ _ h => h) (Or.inl ⟨by rfl, ?_⟩) ?_ ?_
  rotate_left
  · intro w'
    go_simp
    with_reducible rfl
  rotate_left
  · simp only [Act.put, List.setIfInBounds_toArray, List.set_cons_zero, List.set_cons_succ, i64_w, i32_w]
    rfl
  refine pure_ (i := 10) (N := some 19) (v := ?_) (a' := ?_) #[true, true, true, false, true, true, true, true, true, true, true, false, false, false, false, false, false] rfl rfl (by kernel_rfl) (fun _ _ _ h => h) (Or.inl ⟨by rfl, ?_⟩) ?_ ?_
  rotate_left
  · intro w'
    go_simp
    with_reducible rfl
  rotate_left
  · simp only [Act.put, List.setIfInBounds_toArray, List.set_cons_zero, List.set_cons_succ, i64_w, i32_w]
    rfl
  refine take_ (i := 3) (N := some 12) (v := ?_) (a' := ?_) #[true, true, true, true, true, true, true, true, true, true, true, false, false, false, false, false, false] rfl rfl (by kernel_rfl) (fun _ _ _ h => h) (Or.inl ⟨by rfl, ?_⟩) hHeld ?_ ?_
  rotate_left
  · rintro w' ⟨s0, s1⟩
    go_simp
    with_reducible rfl
  rotate_left
  · simp only [Act.put, List.setIfInBounds_toArray, List.set_cons_zero, List.set_cons_succ, i64_w, i32_w]
    rfl
  refine take_ (i := 11) (N := some 20) (v := ?_) (a' := ?_) #[true, true, true, true, true, true, true, true, true, true, true, true, false, false, false, false, false] rfl rfl (by kernel_rfl) (fun _ _ _ h => h) (Or.inl ⟨by rfl, ?_⟩) hHeld ?_ ?_
  rotate_left
  · rintro w' ⟨s0, s1⟩
    go_simp
    with_reducible rfl
  rotate_left
  · simp only [Act.put, List.setIfInBounds_toArray, List.set_cons_zero, List.set_cons_succ, i64_w, i32_w]
    rfl
  refine one_ (i := 12) (N := some 21) #[true, true, true, true, true, true, true, true, true, true, true, true, true, false, false, false, false] rfl rfl (by kernel_rfl) (by decide) (fun K hK => ?_)
  refine goes_ Try.func70 (by kernel_rfl) rfl #[.slice A0 x.rs.length c0] (by rfl) rfl rfl (by simp only [List.map_toArray, List.map_cons, List.map_nil]; rfl) ?_
  with_reducible refine (HLAY.out _ HQ0.out).mono ?_
  rintro e w2 ⟨v2, rfl, hR, hb⟩
  refine ⟨_, rfl, ?_⟩
  obtain ⟨A2, c2, rfl⟩ := Kd.R_slice hR
  have HQ2 := Aside0.mk (below_step HQ0.out hb)
  clear hR hb
  refine hK.out _ _ ⟨(HCE.out _ (HQB.out _ HQ2.out)).1, (HCE.out _ (HQB.out _ HQ2.out)).2⟩ (fun hHeld => ?_)
  clear hK K
  refine norm_ (a' := ?_) ?_ ?_
  rotate_left
  · show Act.put _ (some 21) _ = _
    simp only [Act.put, List.setIfInBounds_toArray, List.set_cons_zero, List.set_cons_succ, i64_w, i32_w]
    rfl
  refine pure_ (i := 13) (N := some 22) (v := ?_) (a' := ?_) #[true, true, true, true, true, true, true, true, true, true, true, true, true, true, false, false, false] rfl rfl (by kernel_rfl) (fun _ _ _ h => h) (Or.inl ⟨by rfl, ?_⟩) ?_ ?_
  rotate_left
  · intro w'
    go_simp
    with_reducible rfl
  rotate_left
  · simp only [Act.put, List.setIfInBounds_toArray, List.set_cons_zero, List.set_cons_succ, i64_w, i32_w]
    rfl
  refine one_ (i := 14) (N := some 23) #[true, true, true, true, true, true, true, true, true, true, true, true, true, true, true, false, false] rfl rfl (by kernel_rfl) (by decide) (fun K hK => ?_)
  refine goes_ Try.func71 (by kernel_rfl) rfl #[.int .u64 (x.nr + 1), .int .i64 b.length] (by rfl) rfl rfl (by simp only [List.map_toArray, List.map_cons, List.map_nil]; rfl) ?_
  with_reducible refine ((log_head.calls k2 (x.nr + 1) b.length hd _ HHD.out)).mono ?_
  rintro e w3 ⟨v3, rfl, hR, hb⟩
  refine ⟨_, rfl, ?_⟩
  obtain ⟨A3, c3, rfl⟩ := Kd.R_slice hR
  have HR3 := Aside0.mk hR
  have HQ3 := Aside0.mk (below_step HQ2.out hb)
  have HGT := Aside0.mk (Nat.le_trans HQ2.out.size (Nat.le_refl _))
  clear hR hb
  refine hK.out _ _ ⟨(HCE.out _ (HQB.out _ HQ3.out)).1, (HCE.out _ (HQB.out _ HQ3.out)).2⟩ (fun hHeld => ?_)
  clear hK K
  refine norm_ (a' := ?_) ?_ ?_
  rotate_left
  · show Act.put _ (some 23) _ = _
    simp only [Act.put, List.setIfInBounds_toArray, List.set_cons_zero, List.set_cons_succ, i64_w, i32_w]
    rfl
  refine one_ (i := 15) (N := some 24) #[true, true, true, true, true, true, true, true, true, true, true, true, true, true, true, true, false] rfl rfl (by kernel_rfl) (by decide) (fun K hK => ?_)
  refine goes_ Try.func15 (by kernel_rfl) rfl #[.pointer (some ⟨d, 0, none⟩), .int .i64 (wrap64 ((x.nr + 1).tmod 2)), .slice A3 hd.length c3] (by rfl) rfl rfl (by simp only [List.map_toArray, List.map_cons, List.map_nil]; rfl) ?_
  with_reducible refine (HWR.out _ _ (A3, c3) HQ2.out HQ3.out HR3.out).mono ?_
  rintro e w4 ⟨rfl, hl, hk, hb, hg⟩
  refine ⟨_, rfl, ?_⟩
  have HL4 := Aside0.mk hl
  have HK4 := Aside0.mk hk
  have HB4 := Aside0.mk hb
  have HG4 := Aside0.mk hg
  clear hl hk hb hg
  refine hK.out _ _ ⟨(HCE.out _ HG4.out).1, (HCE.out _ HG4.out).2⟩ (fun hHeld => ?_)
  clear hK K
  refine norm_ (a' := ?_) ?_ ?_
  rotate_left
  · show Act.put _ (some 24) _ = _
    simp only [Act.put, List.setIfInBounds_toArray, List.set_cons_zero, List.set_cons_succ, i64_w, i32_w]
    rfl
  refine pure_ (i := 16) (N := some 2) (v := ?_) (a' := ?_) #[true, true, true, true, true, true, true, true, true, true, true, true, true, true, true, true, true] rfl rfl (by kernel_rfl) (fun _ _ _ h => h) (Or.inl ⟨by rfl, ?_⟩) ?_ ?_
  rotate_left
  · intro w'
    go_simp
    with_reducible rfl
  rotate_left
  · simp only [Act.put, List.setIfInBounds_toArray, List.set_cons_zero, List.set_cons_succ, i64_w, i32_w]
    rfl
  refine done_ (by kernel_rfl) ?_

  go_wp2
  go_ret
  exact ⟨rfl, HL4.out, HK4.out, HB4.out⟩

end Go.Proofs.Ytpkhpfgojhojaaa.PLg
