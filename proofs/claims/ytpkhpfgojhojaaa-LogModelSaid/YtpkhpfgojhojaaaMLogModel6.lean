/- Parts of one proof, merged by merge.py of this repo: walks over the given program and plain facts, used by the law of the file YtpkhpfgojhojaaaCLogModel. -/
import Derived.Test.YtpkhpfgojhojaaaMLogModel3
import Derived.Test.YtpkhpfgojhojaaaMLogModel5
import Derived.Test.YtpkhpfgojhojaaaMLogModel4
import Derived.Test.YtpkhpfgojhojaaaMLogModel2
import Derived.Lib.SlBytesConst
namespace Go.Proofs.Ytpkhpfgojhojaaa.PLg
open Go.RowKit Go.Proofs.YtpkhpfgojhojaaaW.PrintWords Go.Proofs.YtpkhpfgojhojaaaW.PrintLast Go.Proofs.YtpkhpfgojhojaaaW.PrintMore
attribute [local go_sem] max2_int min2_int max_two min_two max_three min_three max_four min_four
set_option linter.unusedVariables false
set_option linter.unusedSimpArgs false
-- FUNCTION: (*gangway/log.Log).Sync
-- IMPORT: Derived.Test.@N@WOwn
-- IMPORT: Derived.Test.@N@DPoint
/-- The disk behind each of the four steps, and what the step told. -/
def syncY (x : Lg) (b hd : List Int) : Nat → Dk × Int
  | 0 => (x.y, 0)
  | 1 => wrL (b.length + 1) x.y (x.from (x.nr + 1) : Nat) b
  | 2 => (wrL (b.length + 1) x.y (x.from (x.nr + 1) : Nat) b).1.flush
  | 3 => (wrL (b.length + 1) x.y (x.from (x.nr + 1) : Nat) b).1.flush.1.write ((x.nr + 1) % 2) hd
  | _ + 4 => ((wrL (b.length + 1) x.y (x.from (x.nr + 1) : Nat) b).1.flush.1.write ((x.nr + 1) % 2) hd).1.flush
def syncRun (x : Lg) (b hd : List Int) : Nat → Nat → Lg × Int
  | 0, _ => (⟨(syncY x b hd 4).1, x.nr + 1, x.rs, true⟩, 0)
  | k + 1, i => if (syncY x b hd (i + 1)).2 ≠ 0 then ({ x with y := (syncY x b hd (i + 1)).1 }, (syncY x b hd (i + 1)).2) else syncRun x b hd k (i + 1)
def Lg.sync (x : Lg) (b hd : List Int) : Lg × Int := if x.y.off = true then (x, 103) else if x.fresh = true then (x, 0) else syncRun x b hd 4 0
theorem lg_dFlush {w : World} {bd g d : Nat} {ok : Nat → Prop} {x : Lg} (h : LgAt w bd ok g d x) (hbd : bd ≤ w.heap.size) :
    Calls Try.prog 12 #[.pointer (some ⟨d, 0, none⟩)] w fun e w' => e = .returned (.int .i64 x.y.flush.2) ∧ LgAt w' bd (fun k => ok k ∨ w.heap.size ≤ k) g d { x with y := x.y.flush.1 } ∧ Kept w w' ok ∧ Below bd w w' := by
  obtain ⟨okd, h1, h2, h3⟩ := h.onDisk (w' := w)
  refine (dk_Flush d w bd okd x.y h1 hbd).mono ?_
  rintro e w' ⟨he, hd, hk, hb⟩
  exact ⟨he, h3 w' _ hk hd, hk.mono h2, hb⟩
set_option maxHeartbeats 8000000 in
set_option maxRecDepth 100000 in
theorem log_Log_Sync.walk (k2 g : Nat) (w : World) (bd : Nat) (ok : Nat → Prop) (d : Nat) (x : Lg) (b hd : List Int) (h : LgAt w bd ok g d x) (hbd : bd ≤ w.heap.size) (hL : Lays x.rs b) (hnr : 0 ≤ x.nr ∧ x.nr < 9223372036854775807) (hhd : log_head.f k2 (x.nr + 1) b.length = some hd) :
    Calls Try.prog 38 #[.pointer (some ⟨g, 0, none⟩)] w fun e w' => e = .returned (.int .i64 (x.sync b hd).2) ∧ LgAt w' bd (fun k => ok k ∨ w.heap.size ≤ k) g d (x.sync b hd).1 ∧ Kept w w' ok ∧ Below bd w w' := by
  obtain ⟨_, hdk⟩ := h.disk
  obtain ⟨okl, v, hr, h1, hR⟩ := h.lgRows
  have hbg := hr.2.2.1
  have HD := Aside0.mk hdk
  have H := Aside0.mk h
  have HBD := Aside0.mk hbd
  have HL := Aside0.mk hL
  have HNR := Aside0.mk hnr
  have HHD := Aside0.mk hhd
  have HBG := Aside0.mk hbg
  have H1 := Aside0.mk h1
  have hls := Try.underlying94
  have hmf : ∀ (fn : Fn) (first cap : Array Value) (w : World), (Instr.makeFunc fn first cap).run Try.prog w = .ok (.func fn first cap) w := fun _ _ _ _ => rfl
  have hc0 := (blk_cell h1 0).trans rfl
  clear hdk hr hR hbd hL hnr hhd hbg h h1
  by_cases ho : x.y.off = true
  · have HRD := Aside0.mk (read0_off HD.out.fits ho)
    have hbc : x.sync b hd = (x, 103) := by unfold Lg.sync; rw [if_pos ho]
    rw [hbc]
    clear ho hbc
    go_enter Try.func38, Try.ntmps38
    go_wp2_with fail
    refine (dk_Read d 0 _ _ _ _ HD.out).mono ?_
    rintro e' w1 ⟨v1, rfl, hR, hb⟩
    rw [HRD.out]
    have HB1 := Aside0.mk hb
    clear hR hb
    go_wp2
    go_ret
    exact ⟨rfl, (H.out.below HB1.out).mono (fun k hk => .inl hk), Kept.of_below HB1.out _, HB1.out.mono HBD.out⟩
  · have ho' : x.y.off = false := by simpa using ho
    have HRD := Aside0.mk (read0_on HD.out.fits ho')
    by_cases hf : x.fresh = true
    · have hbc : x.sync b hd = (x, 0) := by unfold Lg.sync; rw [if_neg ho, if_pos hf]
      rw [hbc]
      have H1' := H1.out
      rw [hf] at H1'
      have H1 := Aside0.mk H1'
      clear ho hbc ho' hf H1'
      go_enter Try.func38, Try.ntmps38
      go_wp2_with fail
      refine (dk_Read d 0 _ _ _ _ HD.out).mono ?_
      rintro e' w1 ⟨v1, rfl, hR, hb⟩
      rw [HRD.out]
      have HB1 := Aside0.mk hb
      have hc3 := (blk_cell (blk_below H1.out hb) 3).trans rfl
      clear hR hb
      go_wp2
      go_ret
      exact ⟨rfl, (H.out.below HB1.out).mono (fun k hk => .inl hk), Kept.of_below HB1.out _, HB1.out.mono HBD.out⟩
    · have hbc : x.sync b hd = syncRun x b hd 4 0 := by unfold Lg.sync; rw [if_neg ho, if_neg hf]
      rw [hbc]
      obtain ⟨res, hres⟩ : ∃ res, res = syncRun x b hd 4 0 := ⟨_, rfl⟩
      rw [← hres]
      have HRES := Aside0.mk hres
      have hf' : x.fresh = false := by simpa using hf
      have H1' := H1.out
      rw [hf'] at H1'
      have H1 := Aside0.mk H1'
      clear ho hbc ho' hf H1' hres hf'
      go_enter Try.func38, Try.ntmps38
      go_wp2_with fail
      refine (dk_Read d 0 _ _ _ _ HD.out).mono ?_
      rintro e' w1 ⟨v1, rfl, hR, hb⟩
      rw [HRD.out]
      have HB1 := Aside0.mk hb
      have hc3 := (blk_cell (blk_below H1.out hb) 3).trans rfl
      have hg1 := blk_below H1.out hb
      have HG1 := Aside0.mk hg1
      have HL1 := Aside0.mk (H.out.bound.below hb)
      have HCE : Aside0 (∀ W : World, Below w1.heap.size w1 W → W.cell? ⟨g, 0, none⟩ = some (.pointer (some ⟨d, 0, none⟩))) := ⟨fun W hW => (blk_cell (blk_below hg1 hW) 0).trans rfl⟩
      clear hR hb hc0 hg1
      go_upto_region 4 with (fail)
      have HQ0 : Aside0 (Below w1.heap.size w1 w1.drew) := ⟨below_drew (Below.refl _ _)⟩
      refine start_ (n := 17) (S := fun w' => w'.cell? ⟨g, 0, none⟩ = some (.pointer (some ⟨d, 0, none⟩))) (ds := []) #[false, false, false, false, false, false, false, false, false, false, false, false, false, false, false, false, false] (by kernel_rfl) rfl rfl (HCE.out _ HQ0.out) (fun hHeld => ?_)
      refine pure_ (i := 0) (N := some 25) (v := ?_) (a' := ?_) #[true, false, false, false, false, false, false, false, false, false, false, false, false, false, false, false, false] rfl rfl (by kernel_rfl) (fun _ _ _ h => h) (Or.inl ⟨by rfl, ?_⟩) ?_ ?_
      rotate_left
      · intro w'
        go_simp
        with_reducible rfl
      rotate_left
      · simp only [Act.put, List.setIfInBounds_toArray, List.set_cons_zero, List.set_cons_succ, i64_w, i32_w]
        rfl
      refine pure_ (i := 1) (N := some 26) (v := ?_) (a' := ?_) #[true, true, false, false, false, false, false, false, false, false, false, false, false, false, false, false, false] rfl rfl (by kernel_rfl) (fun _ _ _ h => h) (Or.inl ⟨by rfl, ?_⟩) ?_ ?_
      rotate_left
      · intro w'
        go_simp
        with_reducible rfl
      rotate_left
      · simp only [Act.put, List.setIfInBounds_toArray, List.set_cons_zero, List.set_cons_succ, i64_w, i32_w]
        rfl
      refine pure_ (i := 2) (N := some 27) (v := ?_) (a' := ?_) #[true, true, true, false, false, false, false, false, false, false, false, false, false, false, false, false, false] rfl rfl (by kernel_rfl) (fun _ _ _ h => h) (Or.inl ⟨by rfl, ?_⟩) ?_ ?_
      rotate_left
      · intro w'
        go_simp
        with_reducible rfl
      rotate_left
      · simp only [Act.put, List.setIfInBounds_toArray, List.set_cons_zero, List.set_cons_succ, i64_w, i32_w]
        rfl
      refine pure_ (i := 3) (N := some 28) (v := ?_) (a' := ?_) #[true, true, true, true, false, false, false, false, false, false, false, false, false, false, false, false, false] rfl rfl (by kernel_rfl) (fun _ _ _ h => h) (Or.inl ⟨by rfl, ?_⟩) ?_ ?_
      rotate_left
      · intro w'
        go_simp
        with_reducible rfl
      rotate_left
      · simp only [Act.put, List.setIfInBounds_toArray, List.set_cons_zero, List.set_cons_succ, i64_w, i32_w]
        rfl
      refine pure_ (i := 4) (N := some 29) (v := ?_) (a' := ?_) #[true, true, true, true, true, false, false, false, false, false, false, false, false, false, false, false, false] rfl rfl (by kernel_rfl) (fun _ _ _ h => h) (Or.inl ⟨by rfl, ?_⟩) ?_ ?_
      rotate_left
      · intro w'
        go_simp
        with_reducible rfl
      rotate_left
      · simp only [Act.put, List.setIfInBounds_toArray, List.set_cons_zero, List.set_cons_succ, i64_w, i32_w]
        rfl
      refine pure_ (i := 7) (N := some 32) (v := ?_) (a' := ?_) #[true, true, true, true, true, false, false, true, false, false, false, false, false, false, false, false, false] rfl rfl (by kernel_rfl) (fun _ _ _ h => h) (Or.inl ⟨by rfl, ?_⟩) ?_ ?_
      rotate_left
      · intro w'
        go_simp
        with_reducible rfl
      rotate_left
      · simp only [Act.put, List.setIfInBounds_toArray, List.set_cons_zero, List.set_cons_succ, i64_w, i32_w]
        rfl
      refine pure_ (i := 8) (N := some 33) (v := ?_) (a' := ?_) #[true, true, true, true, true, false, false, true, true, false, false, false, false, false, false, false, false] rfl rfl (by kernel_rfl) (fun _ _ _ h => h) (Or.inl ⟨by rfl, ?_⟩) ?_ ?_
      rotate_left
      · intro w'
        go_simp
        with_reducible rfl
      rotate_left
      · simp only [Act.put, List.setIfInBounds_toArray, List.set_cons_zero, List.set_cons_succ, i64_w, i32_w]
        rfl
      refine pure_ (i := 9) (N := some 34) (v := ?_) (a' := ?_) #[true, true, true, true, true, false, false, true, true, true, false, false, false, false, false, false, false] rfl rfl (by kernel_rfl) (fun _ _ _ h => h) (Or.inl ⟨by rfl, ?_⟩) ?_ ?_
      rotate_left
      · intro w'
        go_simp
        with_reducible rfl
      rotate_left
      · simp only [Act.put, List.setIfInBounds_toArray, List.set_cons_zero, List.set_cons_succ, i64_w, i32_w]
        rfl
      refine pure_ (i := 10) (N := some 35) (v := ?_) (a' := ?_) #[true, true, true, true, true, false, false, true, true, true, true, false, false, false, false, false, false] rfl rfl (by kernel_rfl) (fun _ _ _ h => h) (Or.inl ⟨by rfl, ?_⟩) ?_ ?_
      rotate_left
      · intro w'
        go_simp
        with_reducible rfl
      rotate_left
      · simp only [Act.put, List.setIfInBounds_toArray, List.set_cons_zero, List.set_cons_succ, i64_w, i32_w]
        rfl
      refine pure_ (i := 11) (N := some 36) (v := ?_) (a' := ?_) #[true, true, true, true, true, false, false, true, true, true, true, true, false, false, false, false, false] rfl rfl (by kernel_rfl) (fun _ _ _ h => h) (Or.inl ⟨by rfl, ?_⟩) ?_ ?_
      rotate_left
      · intro w'
        go_simp
        with_reducible rfl
      rotate_left
      · simp only [Act.put, List.setIfInBounds_toArray, List.set_cons_zero, List.set_cons_succ, i64_w, i32_w]
        rfl
      refine pure_ (i := 16) (N := some 41) (v := ?_) (a' := ?_) #[true, true, true, true, true, false, false, true, true, true, true, true, false, false, false, false, true] rfl rfl (by kernel_rfl) (fun _ _ _ h => h) (Or.inl ⟨by rfl, ?_⟩) ?_ ?_
      rotate_left
      · intro w'
        go_simp
        with_reducible rfl
      rotate_left
      · simp only [Act.put, List.setIfInBounds_toArray, List.set_cons_zero, List.set_cons_succ, i64_w, i32_w]
        rfl
      refine take_ (i := 5) (N := some 30) (v := ?_) (a' := ?_) #[true, true, true, true, true, true, false, true, true, true, true, true, false, false, false, false, true] rfl rfl (by kernel_rfl) (fun _ _ _ h => h) (Or.inl ⟨by rfl, ?_⟩) hHeld ?_ ?_
      rotate_left
      · intro w' s0
        go_simp
        with_reducible rfl
      rotate_left
      · simp only [Act.put, List.setIfInBounds_toArray, List.set_cons_zero, List.set_cons_succ, i64_w, i32_w]
        rfl
      refine pure_ (i := 6) (N := some 31) (v := ?_) (a' := ?_) #[true, true, true, true, true, true, true, true, true, true, true, true, false, false, false, false, true] rfl rfl (by kernel_rfl) (fun _ _ _ h => h) (Or.inl ⟨by rfl, ?_⟩) ?_ ?_
      rotate_left
      · intro w'
        go_simp
        with_reducible rfl
      rotate_left
      · simp only [Act.put, List.setIfInBounds_toArray, List.set_cons_zero, List.set_cons_succ, i64_w, i32_w]
        rfl
      refine take_ (i := 12) (N := some 37) (v := ?_) (a' := ?_) #[true, true, true, true, true, true, true, true, true, true, true, true, true, false, false, false, true] rfl rfl (by kernel_rfl) (fun _ _ _ h => h) (Or.inl ⟨by rfl, ?_⟩) hHeld ?_ ?_
      rotate_left
      · intro w' s0
        go_simp
        with_reducible rfl
      rotate_left
      · simp only [Act.put, List.setIfInBounds_toArray, List.set_cons_zero, List.set_cons_succ, i64_w, i32_w]
        rfl
      refine pure_ (i := 13) (N := some 38) (v := ?_) (a' := ?_) #[true, true, true, true, true, true, true, true, true, true, true, true, true, true, false, false, true] rfl rfl (by kernel_rfl) (fun _ _ _ h => h) (Or.inl ⟨by rfl, ?_⟩) ?_ ?_
      rotate_left
      · intro w'
        go_simp
        with_reducible rfl
      rotate_left
      · simp only [Act.put, List.setIfInBounds_toArray, List.set_cons_zero, List.set_cons_succ, i64_w, i32_w]
        rfl
      refine one_ (i := 14) (N := some 39) #[true, true, true, true, true, true, true, true, true, true, true, true, true, true, true, false, true] rfl rfl (by kernel_rfl) (by decide) (fun K hK => ?_)
      refine value_ (w1 := ?_) (v := ?_) (by rfl) rfl ?_ ?_
      rotate_left 2
      · go_simp
        constructor
        · rfl
        · rfl
      refine hK.out _ _ (HCE.out _ (below_alloc HQ0.out _)) (fun hHeld => ?_)
      clear hK K
      refine norm_ (a' := ?_) ?_ ?_
      rotate_left
      · show Act.put _ (some 39) _ = _
        simp only [Act.put, List.setIfInBounds_toArray, List.set_cons_zero, List.set_cons_succ, i64_w, i32_w]
        rfl
      refine pure_ (i := 15) (N := some 40) (v := ?_) (a' := ?_) #[true, true, true, true, true, true, true, true, true, true, true, true, true, true, true, true, true] rfl rfl (by kernel_rfl) (fun _ _ _ h => h) (Or.inl ⟨by rfl, ?_⟩) ?_ ?_
      rotate_left
      · intro w'
        go_simp
        with_reducible rfl
      rotate_left
      · simp only [Act.put, List.setIfInBounds_toArray, List.set_cons_zero, List.set_cons_succ, i64_w, i32_w]
        rfl
      refine done_ (by kernel_rfl) ?_

      have HGF0 := Aside0.mk (blk_drew (blk_new w1 (.cells #[.func (.func 61) #[.pointer (some ⟨g, 0, none⟩)] #[], .func (.func 12) #[.pointer (some ⟨d, 0, none⟩)] #[], .func (.func 62) #[.pointer (some ⟨g, 0, none⟩)] #[], .func (.func 12) #[.pointer (some ⟨d, 0, none⟩)] #[]] 37)))
      have HB2 := Aside0.mk (below_drew (below_alloc HB1.out (.cells #[.func (.func 61) #[.pointer (some ⟨g, 0, none⟩)] #[], .func (.func 12) #[.pointer (some ⟨d, 0, none⟩)] #[], .func (.func 62) #[.pointer (some ⟨g, 0, none⟩)] #[], .func (.func 12) #[.pointer (some ⟨d, 0, none⟩)] #[]] 37)))
      have HBL := Aside0.mk (below_drew (below_alloc (Below.refl w1.heap.size w1) (.cells #[.func (.func 61) #[.pointer (some ⟨g, 0, none⟩)] #[], .func (.func 12) #[.pointer (some ⟨d, 0, none⟩)] #[], .func (.func 62) #[.pointer (some ⟨g, 0, none⟩)] #[], .func (.func 12) #[.pointer (some ⟨d, 0, none⟩)] #[]] 37)))
      have HWS : Aside0 (w.heap.size ≤ w1.heap.size) := ⟨HB1.out.size⟩
      have HL2 := Aside0.mk ((HL1.out.below HBL.out).mono (ok' := fun k => (ok k ∨ w.heap.size ≤ k) ∧ k ≠ w1.heap.size) (fun k hk => ⟨.inl hk.1, by have h1 := hk.2; have h2 := HWS.out; omega⟩))
      have HGZ : Aside0 (w1.heap.size + 1 ≤ ((w1.alloc (.cells #[.func (.func 61) #[.pointer (some ⟨g, 0, none⟩)] #[], .func (.func 12) #[.pointer (some ⟨d, 0, none⟩)] #[], .func (.func 62) #[.pointer (some ⟨g, 0, none⟩)] #[], .func (.func 12) #[.pointer (some ⟨d, 0, none⟩)] #[]] 37)).drew).heap.size) := ⟨Nat.le_of_eq (World.size_alloc w1 _).symm⟩
      obtain ⟨gf, hgf⟩ : ∃ gf, gf = w1.heap.size := ⟨_, rfl⟩
      rw [← hgf] at HGF0 HL2 HWS HGZ
      rw [← hgf]
      obtain ⟨okA, hokA⟩ : ∃ okA : Nat → Prop, okA = (fun k => (ok k ∨ w.heap.size ≤ k) ∧ k ≠ gf) := ⟨_, rfl⟩
      rw [← hokA] at HL2
      have HOKA : Aside0 (∀ k, okA k → (ok k ∨ w.heap.size ≤ k) ∧ k ≠ gf) := ⟨fun k hk => by rw [hokA] at hk; exact hk⟩
      have HOKN : Aside0 (∀ k, gf + 1 ≤ k → okA k) := ⟨fun k hk => by rw [hokA]; exact ⟨.inr (by have := HWS.out; omega), by omega⟩⟩
      obtain ⟨W0, hW0⟩ : ∃ W0, W0 = (w1.alloc (.cells #[.func (.func 61) #[.pointer (some ⟨g, 0, none⟩)] #[], .func (.func 12) #[.pointer (some ⟨d, 0, none⟩)] #[], .func (.func 62) #[.pointer (some ⟨g, 0, none⟩)] #[], .func (.func 12) #[.pointer (some ⟨d, 0, none⟩)] #[]] 37)).drew := ⟨_, rfl⟩
      rw [← hW0] at HGF0 HL2 HB2 HGZ
      rw [← hW0]
      clear hgf hokA hW0 HBL HCE HQ0 hc3
      go_wp2
      go_loopw [41] (fun v41 w' => ∃ i : Nat, i ≤ 4 ∧ v41 = .int .i64 i ∧ Aside0 (LgAt w' bd okA g d { x with y := (syncY x b hd i).1 }) ∧ Aside0 (w'.heap[gf]? = some (.cells #[.func (.func 61) #[.pointer (some ⟨g, 0, none⟩)] #[], .func (.func 12) #[.pointer (some ⟨d, 0, none⟩)] #[], .func (.func 62) #[.pointer (some ⟨g, 0, none⟩)] #[], .func (.func 12) #[.pointer (some ⟨d, 0, none⟩)] #[]] 37 (0, 0))) ∧ Aside0 (Kept w w' ok) ∧ Aside0 (Below bd w w') ∧ Aside0 (syncRun x b hd (4 - i) i = res)) (fun v41 _ => 4 - (intOf v41).toNat)
      case atStart => exact ⟨0, Nat.zero_le _, rfl, HL2, HGF0, ⟨Kept.of_below HB2.out _⟩, ⟨HB2.out.mono HBD.out⟩, ⟨HRES.out.symm⟩⟩
      case round =>
        clear HL2 HGF0 HB2 HGZ HL1 HG1 HB1
        obtain ⟨i, hi, rfl, HLG, HGF, HK, HB, HRUN⟩ := hrel
        have HBW : Aside0 (bd ≤ wr.heap.size) := ⟨Nat.le_trans HBD.out HB.out.size⟩
        have HGW : Aside0 (gf + 1 ≤ wr.heap.size) := ⟨blk_lt HGF.out⟩
        have HEND : Aside0 (∀ w3 y', LgAt w3 bd okA g d { x with y := y' } ∧ Kept wr w3 okA ∧ Below bd wr w3 → LgAt w3 bd (fun k => (ok k ∨ w.heap.size ≤ k) ∧ okA k) g d { x with y := y' } ∧ w3.heap[gf]? = some (.cells #[.func (.func 61) #[.pointer (some ⟨g, 0, none⟩)] #[], .func (.func 12) #[.pointer (some ⟨d, 0, none⟩)] #[], .func (.func 62) #[.pointer (some ⟨g, 0, none⟩)] #[], .func (.func 12) #[.pointer (some ⟨d, 0, none⟩)] #[]] 37 (0, 0)) ∧ Kept w w3 ok ∧ Below bd w w3) := ⟨fun w3 y' ⟨hl, hk, hb⟩ => ⟨hl.mono (fun k hk => ⟨(HOKA.out k hk).1, hk⟩), blk_kept HGF.out hk (fun h => (HOKA.out _ h).2 rfl), HK.out.then_ hk (fun k hk => (HOKA.out k hk).1), HB.out.trans hb⟩⟩
        by_cases hlt : i < 4
        · rcases (by omega : i = 0 ∨ i = 1 ∨ i = 2 ∨ i = 3) with rfl | rfl | rfl | rfl
          · have hcell := (blk_cell HGF.out 0).trans rfl
            have hy : ∃ q, q = (syncY x b hd 1) := ⟨_, rfl⟩
            obtain ⟨⟨y', cd⟩, hy⟩ := hy
            have HCON : Aside0 (Calls Try.prog 61 #[.pointer (some ⟨g, 0, none⟩)] wr fun e w' => e = .returned (.int .i64 cd) ∧ LgAt w' bd okA g d { x with y := y' } ∧ Kept wr w' okA ∧ Below bd wr w') := ⟨by
              have h : Calls Try.prog 61 #[.pointer (some ⟨g, 0, none⟩)] wr fun e w' => e = .returned (.int .i64 (syncY x b hd 1).2) ∧ LgAt w' bd okA g d { x with y := (syncY x b hd 1).1 } ∧ Kept wr w' okA ∧ Below bd wr w' := by
                refine (log_Log_write.walk g wr bd okA d { x with y := (syncY x b hd 0).1 } b HLG.out HBW.out HL.out HNR.out).mono ?_
                rintro e w' ⟨he, hl, hk, hb⟩
                exact ⟨he, hl.mono (fun k hk => hk), hk, hb⟩
              rw [← hy] at h
              exact h⟩
            have hrun := HRUN.out
            rw [show 4 - 0 = 3 + 1 from rfl, syncRun, ← hy] at hrun
            have HY := Aside0.mk hy
            by_cases hcd : cd = 0
            · subst hcd
              have HRUN2 := Aside0.mk hrun
              clear hrun hy
              go_wp2_with (first | (go_at_call 61; refine HCON.out.mono ?_; rintro e' w3 ⟨rfl, h3⟩; have H3 := Aside0.mk (HEND.out w3 y' h3); clear h3))
              go_roundw
              case rel =>
                obtain ⟨q1, q2, q3, q4⟩ := H3.out
                refine ⟨1, by omega, by go_num, ⟨?_⟩, ⟨q2⟩, ⟨q3⟩, ⟨q4⟩, ⟨?_⟩⟩
                · rw [← HY.out]
                  exact q1.mono (fun k hk => hk.2)
                · have h := HRUN2.out
                  rw [if_neg (fun h => h rfl)] at h
                  exact h
              case measure => simp [intOf]
            · have t5 : (cd != 0) = true := by simpa using hcd
              rw [if_pos hcd] at hrun
              have HRUN2 := Aside0.mk hrun
              clear hrun hcd hy
              go_wp2_with (first | (go_at_call 61; refine HCON.out.mono ?_; rintro e' w3 ⟨rfl, h3⟩; have H3 := Aside0.mk (HEND.out w3 y' h3); clear h3))
              go_ret
              obtain ⟨q1, q2, q3, q4⟩ := H3.out
              rw [← HRUN2.out]
              exact ⟨rfl, q1.mono (fun k hk => hk.1), q3, q4⟩
          · have hcell := (blk_cell HGF.out 1).trans rfl
            have hy : ∃ q, q = (syncY x b hd 2) := ⟨_, rfl⟩
            obtain ⟨⟨y', cd⟩, hy⟩ := hy
            have HCON : Aside0 (Calls Try.prog 12 #[.pointer (some ⟨d, 0, none⟩)] wr fun e w' => e = .returned (.int .i64 cd) ∧ LgAt w' bd okA g d { x with y := y' } ∧ Kept wr w' okA ∧ Below bd wr w') := ⟨by
              have h : Calls Try.prog 12 #[.pointer (some ⟨d, 0, none⟩)] wr fun e w' => e = .returned (.int .i64 (syncY x b hd 2).2) ∧ LgAt w' bd okA g d { x with y := (syncY x b hd 2).1 } ∧ Kept wr w' okA ∧ Below bd wr w' := by
                refine (lg_dFlush HLG.out HBW.out).mono ?_
                rintro e w' ⟨he, hl, hk, hb⟩
                exact ⟨he, hl.mono (fun k hk => hk.elim id (fun q => HOKN.out k (Nat.le_trans HGW.out q))), hk, hb⟩
              rw [← hy] at h
              exact h⟩
            have hrun := HRUN.out
            rw [show 4 - 1 = 2 + 1 from rfl, syncRun, ← hy] at hrun
            have HY := Aside0.mk hy
            by_cases hcd : cd = 0
            · subst hcd
              have HRUN2 := Aside0.mk hrun
              clear hrun hy
              go_wp2_with (first | (go_at_call 12; refine HCON.out.mono ?_; rintro e' w3 ⟨rfl, h3⟩; have H3 := Aside0.mk (HEND.out w3 y' h3); clear h3))
              go_roundw
              case rel =>
                obtain ⟨q1, q2, q3, q4⟩ := H3.out
                refine ⟨2, by omega, by go_num, ⟨?_⟩, ⟨q2⟩, ⟨q3⟩, ⟨q4⟩, ⟨?_⟩⟩
                · rw [← HY.out]
                  exact q1.mono (fun k hk => hk.2)
                · have h := HRUN2.out
                  rw [if_neg (fun h => h rfl)] at h
                  exact h
              case measure => simp [intOf]
            · have t5 : (cd != 0) = true := by simpa using hcd
              rw [if_pos hcd] at hrun
              have HRUN2 := Aside0.mk hrun
              clear hrun hcd hy
              go_wp2_with (first | (go_at_call 12; refine HCON.out.mono ?_; rintro e' w3 ⟨rfl, h3⟩; have H3 := Aside0.mk (HEND.out w3 y' h3); clear h3))
              go_ret
              obtain ⟨q1, q2, q3, q4⟩ := H3.out
              rw [← HRUN2.out]
              exact ⟨rfl, q1.mono (fun k hk => hk.1), q3, q4⟩
          · have hcell := (blk_cell HGF.out 2).trans rfl
            have hy : ∃ q, q = (syncY x b hd 3) := ⟨_, rfl⟩
            obtain ⟨⟨y', cd⟩, hy⟩ := hy
            have HCON : Aside0 (Calls Try.prog 62 #[.pointer (some ⟨g, 0, none⟩)] wr fun e w' => e = .returned (.int .i64 cd) ∧ LgAt w' bd okA g d { x with y := y' } ∧ Kept wr w' okA ∧ Below bd wr w') := ⟨by
              have h : Calls Try.prog 62 #[.pointer (some ⟨g, 0, none⟩)] wr fun e w' => e = .returned (.int .i64 (syncY x b hd 3).2) ∧ LgAt w' bd okA g d { x with y := (syncY x b hd 3).1 } ∧ Kept wr w' okA ∧ Below bd wr w' := by
                refine (log_Log_point.walk k2 g wr bd okA d { x with y := (syncY x b hd 2).1 } b hd HLG.out HBW.out HL.out HNR.out HHD.out).mono ?_
                rintro e w' ⟨he, hl, hk, hb⟩
                exact ⟨he, hl.mono (fun k hk => hk), hk, hb⟩
              rw [← hy] at h
              exact h⟩
            have hrun := HRUN.out
            rw [show 4 - 2 = 1 + 1 from rfl, syncRun, ← hy] at hrun
            have HY := Aside0.mk hy
            by_cases hcd : cd = 0
            · subst hcd
              have HRUN2 := Aside0.mk hrun
              clear hrun hy
              go_wp2_with (first | (go_at_call 62; refine HCON.out.mono ?_; rintro e' w3 ⟨rfl, h3⟩; have H3 := Aside0.mk (HEND.out w3 y' h3); clear h3))
              go_roundw
              case rel =>
                obtain ⟨q1, q2, q3, q4⟩ := H3.out
                refine ⟨3, by omega, by go_num, ⟨?_⟩, ⟨q2⟩, ⟨q3⟩, ⟨q4⟩, ⟨?_⟩⟩
                · rw [← HY.out]
                  exact q1.mono (fun k hk => hk.2)
                · have h := HRUN2.out
                  rw [if_neg (fun h => h rfl)] at h
                  exact h
              case measure => simp [intOf]
            · have t5 : (cd != 0) = true := by simpa using hcd
              rw [if_pos hcd] at hrun
              have HRUN2 := Aside0.mk hrun
              clear hrun hcd hy
              go_wp2_with (first | (go_at_call 62; refine HCON.out.mono ?_; rintro e' w3 ⟨rfl, h3⟩; have H3 := Aside0.mk (HEND.out w3 y' h3); clear h3))
              go_ret
              obtain ⟨q1, q2, q3, q4⟩ := H3.out
              rw [← HRUN2.out]
              exact ⟨rfl, q1.mono (fun k hk => hk.1), q3, q4⟩
          · have hcell := (blk_cell HGF.out 3).trans rfl
            have hy : ∃ q, q = (syncY x b hd 4) := ⟨_, rfl⟩
            obtain ⟨⟨y', cd⟩, hy⟩ := hy
            have HCON : Aside0 (Calls Try.prog 12 #[.pointer (some ⟨d, 0, none⟩)] wr fun e w' => e = .returned (.int .i64 cd) ∧ LgAt w' bd okA g d { x with y := y' } ∧ Kept wr w' okA ∧ Below bd wr w') := ⟨by
              have h : Calls Try.prog 12 #[.pointer (some ⟨d, 0, none⟩)] wr fun e w' => e = .returned (.int .i64 (syncY x b hd 4).2) ∧ LgAt w' bd okA g d { x with y := (syncY x b hd 4).1 } ∧ Kept wr w' okA ∧ Below bd wr w' := by
                refine (lg_dFlush HLG.out HBW.out).mono ?_
                rintro e w' ⟨he, hl, hk, hb⟩
                exact ⟨he, hl.mono (fun k hk => hk.elim id (fun q => HOKN.out k (Nat.le_trans HGW.out q))), hk, hb⟩
              rw [← hy] at h
              exact h⟩
            have hrun := HRUN.out
            rw [show 4 - 3 = 0 + 1 from rfl, syncRun, ← hy] at hrun
            have HY := Aside0.mk hy
            by_cases hcd : cd = 0
            · subst hcd
              have HRUN2 := Aside0.mk hrun
              clear hrun hy
              go_wp2_with (first | (go_at_call 12; refine HCON.out.mono ?_; rintro e' w3 ⟨rfl, h3⟩; have H3 := Aside0.mk (HEND.out w3 y' h3); clear h3))
              go_roundw
              case rel =>
                obtain ⟨q1, q2, q3, q4⟩ := H3.out
                refine ⟨4, by omega, by go_num, ⟨?_⟩, ⟨q2⟩, ⟨q3⟩, ⟨q4⟩, ⟨?_⟩⟩
                · rw [← HY.out]
                  exact q1.mono (fun k hk => hk.2)
                · have h := HRUN2.out
                  rw [if_neg (fun h => h rfl)] at h
                  exact h
              case measure => simp [intOf]
            · have t5 : (cd != 0) = true := by simpa using hcd
              rw [if_pos hcd] at hrun
              have HRUN2 := Aside0.mk hrun
              clear hrun hcd hy
              go_wp2_with (first | (go_at_call 12; refine HCON.out.mono ?_; rintro e' w3 ⟨rfl, h3⟩; have H3 := Aside0.mk (HEND.out w3 y' h3); clear h3))
              go_ret
              obtain ⟨q1, q2, q3, q4⟩ := H3.out
              rw [← HRUN2.out]
              exact ⟨rfl, q1.mono (fun k hk => hk.1), q3, q4⟩
        · obtain rfl : i = 4 := by omega
          have hrun : (⟨(syncY x b hd 4).1, x.nr + 1, x.rs, true⟩, 0) = res := HRUN.out
          obtain ⟨_, _, v5, hg5, _⟩ := HLG.out
          have hc1 := (blk_cell hg5 1).trans rfl
          have hc3 := (blk_cell hg5 3).trans rfl
          have hf1 := blk_frozen hg5 1
          have hf3 := blk_frozen hg5 3
          have hw1 : IntKind.u64.wrap (x.nr + 1) = x.nr + 1 := by have := HNR.out; show (x.nr + 1) % 18446744073709551616 = _; omega
          have HRUN2 := Aside0.mk hrun
          clear hrun hg5 hlt
          go_wp2
          go_ret
          have hk : Kept wr ((wr.setCell ⟨g, 1, none⟩ (.int .u64 (x.nr + 1))).setCell ⟨g, 3, none⟩ (.bool true)) (fun k => k = g) := ((Kept.refl wr (fun k => k = g)).setCell (p := ⟨g, 1, none⟩) (.inl rfl) _).setCell (p := ⟨g, 3, none⟩) (.inl rfl) _
          have hokg : ok g := by obtain ⟨_, _, _, _, _, _, _, _, _, q, _⟩ := H.out; exact q
          rw [← HRUN2.out]
          refine ⟨rfl, ?_, HK.out.then_ hk (fun k hk => .inl (hk ▸ hokg)), (HB.out.setCell (p := ⟨g, 1, none⟩) HBG.out _).setCell (p := ⟨g, 3, none⟩) HBG.out _⟩
          have hp := HLG.out.put0 (nr := x.nr + 1) (fr := true) hk (fun v hv => blk_set (blk_set hv 1 _) 3 _)
          exact hp.mono (fun k hk => (HOKA.out k hk).1)

end Go.Proofs.Ytpkhpfgojhojaaa.PLg

namespace Go.Proofs.Ytpkhpfgojhojaaa.PLg
open Go.RowKit Go.Proofs.YtpkhpfgojhojaaaW.PrintWords Go.Proofs.YtpkhpfgojhojaaaW.PrintLast Go.Proofs.YtpkhpfgojhojaaaW.PrintMore
attribute [local go_sem] max2_int min2_int max_two min_two max_three min_three max_four min_four
set_option linter.unusedVariables false
set_option linter.unusedSimpArgs false
-- IMPORT: Derived.Test.@N@WOwn
-- IMPORT: Derived.Test.@N@DSync
/-! ### The plain law of words, heads, records. -/
theorem or_byte (a c : Int) (ha : 0 ≤ a) (hc : 0 ≤ c) (hc2 : c < 256) (hb : a * 256 + c < 18446744073709551616) : Go.bits .or .u64 (IntKind.u64.wrap (a * 256)) (IntKind.u64.wrap c) = a * 256 + c := by
  obtain ⟨m, rfl⟩ : ∃ m : Nat, a = (m : Int) := ⟨a.toNat, by omega⟩
  obtain ⟨b, rfl⟩ : ∃ b : Nat, c = (b : Int) := ⟨c.toNat, by omega⟩
  have e1 : IntKind.u64.wrap ((m : Int) * 256) = ((m * 256 : Nat) : Int) := by show ((m : Int) * 256) % 18446744073709551616 = _; omega
  have e2 : IntKind.u64.wrap (b : Int) = (b : Int) := by show (b : Int) % 18446744073709551616 = _; omega
  rw [e1, e2]
  show IntKind.u64.wrap (((BitVec.ofInt 64 ((m * 256 : Nat) : Int)) ||| (BitVec.ofInt 64 (b : Int))).toNat : Int) = _
  have p64 : (2 : Nat) ^ 64 = 18446744073709551616 := by decide
  have q1 : (m * 256) % 2 ^ 64 = m * 256 := Nat.mod_eq_of_lt (by rw [p64]; omega)
  have q2 : b % 2 ^ 64 = b := Nat.mod_eq_of_lt (by rw [p64]; omega)
  rw [BitVec.toNat_or, BitVec.ofInt_natCast, BitVec.ofInt_natCast, BitVec.toNat_ofNat, BitVec.toNat_ofNat, q1, q2]
  have h := Nat.shiftLeft_add_eq_or_of_lt (b := b) (i := 8) (by omega) m
  rw [Nat.shiftLeft_eq] at h
  have h2 : m * 256 ||| b = m * 256 + b := h.symm
  rw [h2]
  show ((m * 256 + b : Nat) : Int) % 18446744073709551616 = _
  omega
def byteAt (n : Int) (j : Nat) : Int := n / 256 ^ j % 256
def bytesOf (n : Int) : Nat → List Int
  | 0 => []
  | j + 1 => byteAt n j :: bytesOf n j
def putB (n : Int) : List Int := bytesOf n 8
theorem length_bytesOf (n : Int) : ∀ j, (bytesOf n j).length = j
  | 0 => rfl
  | j + 1 => by rw [bytesOf, List.length_cons, length_bytesOf n j]
theorem length_putB (n : Int) : (putB n).length = 8 := length_bytesOf n 8
theorem shr_byte (n : Int) (j : Nat) (hj : j ≤ 7) : (shr .u64 n (wrap64 (8 * (j : Int)))) % 256 = byteAt n j := by
  rw [w64 _ (by omega)]
  unfold shr byteAt
  have e : min (8 * (j : Int)).toNat IntKind.u64.bits = 8 * j := by show min _ 64 = _; omega
  rw [e, Int.pow_mul]
  rfl
theorem put_l0 (n : Int) : ∀ (j k : Nat) (l : List Int), j ≤ 8 → l.length + j < 140737488355328 → log_put.l0 (k + j + 1) l n ((j : Int) - 1) = some (l ++ bytesOf n j)
  | 0, k, l, _, _ => by
    rw [Nat.add_zero, log_put.l0, if_neg (by omega), bytesOf, List.append_nil]
  | j + 1, k, l, hj, hl => by
    rw [show k + (j + 1) + 1 = (k + j + 1) + 1 by omega, log_put.l0, if_pos (by omega), show ((j + 1 : Nat) : Int) - 1 = (j : Int) by omega, if_pos (by rw [w64 _ (by omega)]; omega), if_pos (by omega), shr_byte n j (by omega), w64 _ (by omega), put_l0 n j k _ (by omega) (by rw [List.length_append, List.length_singleton]; omega), bytesOf, List.append_assoc]
    rfl
theorem put_f (k : Nat) (l : List Int) (n : Int) (hl : l.length + 8 < 140737488355328) : log_put.f (k + 9) l n = some (l ++ putB n) := put_l0 n 8 k l (Nat.le_refl _) hl
theorem byte_step (n : Int) (h0 : 0 ≤ n) (j : Nat) : n / 256 ^ (j + 1) * 256 + byteAt n j = n / 256 ^ j := by
  unfold byteAt
  rw [Int.pow_succ, ← Int.ediv_ediv_of_nonneg (by exact Int.pow_nonneg (by decide))]
  omega
theorem byte_range (n : Int) (j : Nat) : 0 ≤ byteAt n j ∧ byteAt n j < 256 := by unfold byteAt; omega
theorem word_l0 (n : Int) (h0 : 0 ≤ n) (h1 : n < 18446744073709551616) (L : List Int) : ∀ (j k : Nat) (pre : List Int), j ≤ 8 → L = pre ++ bytesOf n j → pre.length = 8 - j → log_word.l0 (k + j + 1) (n / 256 ^ j) L 8 ((8 - j : Nat) : Int) = some n
  | 0, k, pre, _, hL, hp => by
    rw [Nat.add_zero, log_word.l0, if_neg (by omega), Int.pow_zero, Int.ediv_one]
  | j + 1, k, pre, hj, hL, hp => by
    have hlen : L.length = 8 := by rw [hL, List.length_append, length_bytesOf, hp]; omega
    have hrd : rd L ((8 - (j + 1) : Nat) : Int) = byteAt n j := by
      unfold rd
      rw [Int.toNat_natCast, List.getD_eq_getElem?_getD, hL, List.getElem?_append_right (by omega), hp, Nat.sub_self, bytesOf]
      rfl
    obtain ⟨b0, b1⟩ := byte_range n j
    have hq : 0 ≤ n / 256 ^ (j + 1) := Int.ediv_nonneg h0 (Int.pow_nonneg (by decide))
    have hs := byte_step n h0 j
    have hle : n / 256 ^ j ≤ n := Int.ediv_le_self _ h0
    rw [show k + (j + 1) + 1 = (k + j + 1) + 1 by omega, log_word.l0, if_pos (by omega), if_pos (by omega), if_pos (by rw [hlen]; omega), hrd, or_byte _ _ hq b0 b1 (by omega), hs, w64 _ (by omega), show ((8 - (j + 1) : Nat) : Int) + 1 = ((8 - j : Nat) : Int) by omega]
    exact word_l0 n h0 h1 L j k (pre ++ [byteAt n j]) (by omega) (by rw [hL, bytesOf, List.append_assoc]; rfl) (by rw [List.length_append, List.length_singleton, hp]; omega)
theorem word_f (k : Nat) (n : Int) (h0 : 0 ≤ n) (h1 : n < 18446744073709551616) (rest : List Int) : log_word.f (k + 9) (putB n ++ rest) = some n := by
  have hl := length_putB n
  have ht : (putB n ++ rest).take 8 = putB n := by rw [List.take_append_of_le_length (by omega), List.take_of_length_le (by omega)]
  unfold log_word.f
  rw [if_pos (by rw [List.length_append]; omega), ht, hl]
  have e : n / 256 ^ 8 = 0 := Int.ediv_eq_zero_of_lt h0 (by show n < 18446744073709551616; exact h1)
  have h := word_l0 n h0 h1 (putB n) 8 k [] (Nat.le_refl _) rfl rfl
  rw [e] at h
  exact h

end Go.Proofs.Ytpkhpfgojhojaaa.PLg

namespace Go.Proofs.Ytpkhpfgojhojaaa.PLg
open Go.RowKit Go.Proofs.YtpkhpfgojhojaaaW.PrintWords Go.Proofs.YtpkhpfgojhojaaaW.PrintLast Go.Proofs.YtpkhpfgojhojaaaW.PrintMore
attribute [local go_sem] max2_int min2_int max_two min_two max_three min_three max_four min_four
set_option linter.unusedVariables false
set_option linter.unusedSimpArgs false
-- IMPORT: Derived.Test.@N@WOwn
-- IMPORT: Derived.Test.@N@DLpure
/-! ### The plain law of heads and records. -/
theorem u64_range (z : Int) : 0 ≤ IntKind.u64.wrap z ∧ IntKind.u64.wrap z < 18446744073709551616 := by show 0 ≤ z % 18446744073709551616 ∧ z % 18446744073709551616 < 18446744073709551616; omega
theorem sum_l0 (l : List Int) (hm : l.length < 9223372036854775807) : ∀ (d i : Nat) (x3 x4 : Int), i + d = l.length → 0 ≤ x4 → x4 < 18446744073709551616 → ∃ s, (0 ≤ s ∧ s < 18446744073709551616) ∧ ∀ k, log_sum.l0 (k + d + 1) x3 x4 l (l.length : Int) (i : Int) = some s
  | 0, i, x3, x4, h, h0, h1 => ⟨x4, ⟨h0, h1⟩, fun k => by rw [Nat.add_zero, log_sum.l0, if_neg (by omega)]⟩
  | d + 1, i, x3, x4, h, h0, h1 => by
    obtain ⟨s, hs, hk⟩ := sum_l0 l hm d (i + 1) (IntKind.u64.wrap (x3 + (IntKind.u64.wrap ((IntKind.u64.wrap (rd l (i : Int))) + 1)))) (IntKind.u64.wrap ((IntKind.u64.wrap (x4 * 31)) + (IntKind.u64.wrap (x3 + (IntKind.u64.wrap ((IntKind.u64.wrap (rd l (i : Int))) + 1)))))) (by omega) (u64_range _).1 (u64_range _).2
    refine ⟨s, hs, fun k => ?_⟩
    rw [show k + (d + 1) + 1 = (k + d + 1) + 1 by omega, log_sum.l0, if_pos (by omega), if_pos (by omega), if_pos (by omega), up64 (by omega)]
    exact hk k
theorem sum_ex (l : List Int) (hm : l.length < 9223372036854775807) : ∃ s, (0 ≤ s ∧ s < 18446744073709551616) ∧ ∀ k, log_sum.f (k + l.length + 1) l = some s := by
  obtain ⟨s, hs, hk⟩ := sum_l0 l hm l.length 0 1 0 (by omega) (by omega) (by omega)
  exact ⟨s, hs, fun k => hk k⟩
theorem drop_put (n : Int) (l : List Int) : (putB n ++ l).drop 8 = l := by rw [List.drop_append_of_le_length (by rw [length_putB]; omega), List.drop_of_length_le (by rw [length_putB]; omega), List.nil_append]
/-- A head is told as it was laid. -/
theorem head_ex (nr size : Int) (h0 : 0 ≤ nr) (h1 : nr < 18446744073709551616) (s0 : 0 ≤ size) (s1 : size < 9223372036854775808) : ∃ (k : Nat) (hd : List Int), log_head.f k nr size = some hd ∧ hd.length = 64 ∧ HeadAt hd nr size := by
  have hw : IntKind.u64.wrap size = size := by show size % 18446744073709551616 = _; omega
  have hm := length_putB 1734438503
  have hn := length_putB nr
  have hs := length_putB size
  obtain ⟨s, ⟨hs0, hs1⟩, hsk⟩ := sum_ex (putB 1734438503 ++ putB nr ++ putB size) (by rw [List.length_append, List.length_append]; omega)
  have h24 : (putB 1734438503 ++ putB nr ++ putB size).length = 24 := by rw [List.length_append, List.length_append, hm, hn, hs]
  rw [h24] at hsk
  have hss := length_putB s
  have h32 : (putB 1734438503 ++ putB nr ++ putB size ++ putB s).length = 32 := by rw [List.length_append, h24, hss]
  refine ⟨9 + 24 + 1, putB 1734438503 ++ putB nr ++ putB size ++ putB s ++ List.replicate 32 0, ?_, by rw [List.length_append, h32, List.length_replicate], 34, s, ?_, ?_, ?_, ?_, ?_⟩
  · unfold log_head.f
    rw [show 9 + 24 + 1 = 25 + 9 from rfl, put_f 25 [] _ (by decide), Option.bind_some, List.nil_append, put_f 25 _ _ (by rw [hm]; decide), Option.bind_some, hw, put_f 25 _ _ (by rw [List.length_append, hm, hn]; decide), Option.bind_some, show 25 + 9 = 9 + 24 + 1 from rfl, hsk 9, Option.bind_some, show 9 + 24 + 1 = 25 + 9 from rfl, put_f 25 _ _ (by rw [h24]; decide), Option.bind_some, h32, show wrap64 (64 - ((32 : Nat) : Int)) = 32 by rw [w64 _ (by omega)]; omega, if_pos (by omega), if_pos (by omega)]
    rfl
  · rw [List.append_assoc, List.append_assoc, List.append_assoc]
    exact word_f 25 1734438503 (by decide) (by decide) _
  · rw [List.append_assoc, List.append_assoc, List.append_assoc, drop_put]
    exact word_f 25 nr h0 h1 _
  · rw [show (16 : Nat) = 8 + 8 from rfl, ← List.drop_drop, List.append_assoc, List.append_assoc, List.append_assoc, drop_put, drop_put]
    exact word_f 25 size s0 (by omega) _
  · rw [show (24 : Nat) = 8 + 8 + 8 from rfl, ← List.drop_drop, ← List.drop_drop, List.append_assoc, List.append_assoc, List.append_assoc, drop_put, drop_put, drop_put]
    exact word_f 25 s hs0 hs1 _
  · rw [List.append_assoc _ (putB s), List.take_append_of_le_length (by omega), List.take_of_length_le (by omega)]
    exact hsk 9
theorem noHead_zero : NoHead (List.replicate 64 0) := ⟨9, 0, 0, by kernel_rfl, by decide, by kernel_rfl⟩
def layP (rs : List (List Int)) : List Int := rs.flatMap (fun r => putB (r.length : Int) ++ r)
theorem length_layP (rs : List (List Int)) : (layP rs).length = layLen rs := by
  unfold layP layLen
  induction rs with
  | nil => rfl
  | cons r t ih => rw [List.flatMap_cons, List.length_append, List.length_append, length_putB, ih, List.map_cons, List.sum_cons]
theorem layP_snoc (rs : List (List Int)) (r : List Int) : layP (rs ++ [r]) = layP rs ++ (putB (r.length : Int) ++ r) := by
  unfold layP
  rw [List.flatMap_append, List.flatMap_cons, List.flatMap_nil, List.append_nil]
theorem rd_L2_at (rs : List (List Int)) (i : Nat) (h : i < rs.length) : rd_L2 rs (i : Int) = rs[i] := by
  unfold rd_L2
  rw [Int.toNat_natCast, List.getD_eq_getElem?_getD, List.getElem?_eq_getElem h]
  rfl
theorem layLen_take_le (rs : List (List Int)) (i : Nat) : layLen (rs.take i) ≤ layLen rs := by
  have h : layLen rs = layLen (rs.take i) + layLen (rs.drop i) := by
    unfold layLen
    rw [← List.sum_append, ← List.map_append, List.take_append_drop]
  omega
theorem layLen_next (rs : List (List Int)) (i : Nat) (h : i < rs.length) : layLen (rs.take i) + (8 + rs[i].length) ≤ layLen rs := by
  have h1 := layLen_take_le rs (i + 1)
  have h2 : layLen (rs.take (i + 1)) = layLen (rs.take i) + (8 + rs[i].length) := by
    unfold layLen
    rw [List.take_succ_eq_append_getElem h, List.map_append, List.sum_append]
    simp
  omega
theorem lay_l0 (rs : List (List Int)) (hm : layLen rs < 1000000000) (hn : rs.length < 1000000000) : ∀ (d i k : Nat), i + d = rs.length → log_lay.l0 (k + 9 + d + 1) (layP (rs.take i)) rs (rs.length : Int) (i : Int) = some (layP rs)
  | 0, i, k, h => by
    rw [Nat.add_zero, log_lay.l0, if_neg (by omega), List.take_of_length_le (by omega)]
  | d + 1, i, k, h => by
    have hi : i < rs.length := by omega
    have hx := layLen_next rs i hi
    have hp := length_layP (rs.take i)
    have hw : IntKind.u64.wrap ((rs[i].length : Int)) = (rs[i].length : Int) := by show ((rs[i].length : Int)) % 18446744073709551616 = _; omega
    rw [show k + 9 + (d + 1) + 1 = (k + d + 9) + 1 + 1 by omega, log_lay.l0, if_pos (by omega), if_pos (by omega), if_pos (by omega), rd_L2_at rs i hi, hw, show k + d + 9 + 1 = (k + d + 1) + 9 by omega, put_f _ _ _ (by omega), Option.bind_some, if_pos (by rw [List.length_append, length_putB]; omega), up64 (by omega), List.append_assoc, ← layP_snoc, ← List.take_succ_eq_append_getElem hi, show (k + d + 1) + 9 = k + 9 + d + 1 by omega]
    exact lay_l0 rs hm hn d (i + 1) k (by omega)
theorem own_l0 (rs : List (List Int)) (hm : layLen rs < 1000000000) (hn : rs.length < 1000000000) : ∀ (d i k : Nat), i + d = rs.length → log_own.l0 (k + d + 1) (rs.take i) rs (rs.length : Int) (i : Int) = some rs
  | 0, i, k, h => by
    rw [Nat.add_zero, log_own.l0, if_neg (by omega), List.take_of_length_le (by omega)]
  | d + 1, i, k, h => by
    have hi : i < rs.length := by omega
    have hx := layLen_next rs i hi
    rw [show k + (d + 1) + 1 = (k + d + 1) + 1 by omega, log_own.l0, if_pos (by omega), if_pos (by omega), if_pos (by omega), Option.bind_some, rd_L2_at rs i hi, if_pos (by rw [List.length_nil]; omega), if_pos (by rw [List.length_take]; omega), up64 (by omega), List.nil_append, ← List.take_succ_eq_append_getElem hi]
    exact own_l0 rs hm hn d (i + 1) k (by omega)
theorem layLen_count (rs : List (List Int)) : rs.length * 8 ≤ layLen rs := by
  unfold layLen
  induction rs with
  | nil => exact Nat.le_refl _
  | cons r t ih => rw [List.map_cons, List.sum_cons, List.length_cons]; omega
theorem lays (rs : List (List Int)) (hm : layLen rs ≤ 1000000) : Lays rs (layP rs) := by
  have hc := layLen_count rs
  exact ⟨⟨_, lay_l0 rs (by omega) (by omega) rs.length 0 0 (by omega)⟩, ⟨_, own_l0 rs (by omega) (by omega) rs.length 0 0 (by omega)⟩, length_layP rs, hm⟩

end Go.Proofs.Ytpkhpfgojhojaaa.PLg

namespace Go.Proofs.Ytpkhpfgojhojaaa.PLg
open Go.RowKit Go.Proofs.YtpkhpfgojhojaaaW.PrintWords Go.Proofs.YtpkhpfgojhojaaaW.PrintLast Go.Proofs.YtpkhpfgojhojaaaW.PrintMore
attribute [local go_sem] max2_int min2_int max_two min_two max_three min_three max_four min_four
set_option linter.unusedVariables false
set_option linter.unusedSimpArgs false
-- IMPORT: Derived.Test.@N@WOwn
-- IMPORT: Derived.Test.@N@DLpure2
theorem parse_l0 : ∀ (rs : List (List Int)) (acc : List (List Int)) (k : Nat), layLen rs < 1000000000 → acc.length + rs.length < 1000000000 → log_parse.l0 (k + 9 + 2 * rs.length + 1) (layP rs) acc = some (acc ++ rs, true)
  | [], acc, k, _, _ => by
    rw [log_parse.l0, if_neg (by show ¬ ((0 : Nat) : Int) > 0; omega), List.append_nil]
  | r :: t, acc, k, hm, hn => by
    have hL : layLen (r :: t) = 8 + r.length + layLen t := by unfold layLen; rw [List.map_cons, List.sum_cons]
    have hx : layP (r :: t) = putB (r.length : Int) ++ (r ++ layP t) := by unfold layP; rw [List.flatMap_cons, List.append_assoc]
    have hlen : (layP (r :: t)).length = 8 + r.length + layLen t := by rw [length_layP, hL]
    have hlen' : (putB (r.length : Int) ++ (r ++ layP t)).length = 8 + r.length + layLen t := by rw [← hx]; exact hlen
    have hp := length_putB (r.length : Int)
    have e1 : wrap64 ((r.length : Int)) = (r.length : Int) := w64 _ (by omega)
    have e2 : wrap64 (8 + (r.length : Int)) = ((8 + r.length : Nat) : Int) := by rw [w64 _ (by omega)]; omega
    have e3 : IntKind.u64.wrap (wrap64 (((8 + r.length + layLen t : Nat) : Int) - 8)) = ((r.length + layLen t : Nat) : Int) := by rw [w64 _ (by omega)]; show _ % 18446744073709551616 = _; omega
    have htk : ((putB (r.length : Int) ++ (r ++ layP t)).take (8 + r.length)).drop 8 = r := by
      rw [List.take_append, hp, List.take_of_length_le (by omega), show 8 + r.length - 8 = r.length by omega, List.take_append_of_le_length (Nat.le_refl _), List.take_of_length_le (Nat.le_refl _), drop_put]
    have hdr : (putB (r.length : Int) ++ (r ++ layP t)).drop (8 + r.length) = layP t := by
      rw [← List.drop_drop, drop_put, List.drop_append_of_le_length (Nat.le_refl _), List.drop_of_length_le (Nat.le_refl _), List.nil_append]
    have hcl : slices_Clone_byte_byte_48.f r = some r := by unfold slices_Clone_byte_byte_48.f; rw [if_pos (by omega)]
    rw [hx, List.length_cons] at *
    rw [show k + 9 + 2 * (t.length + 1) + 1 = (k + 2 * t.length + 2) + 9 + 1 by omega, log_parse.l0, hlen', if_pos (by omega), if_neg (by omega), word_f (k + 2 * t.length + 2) _ (by omega) (by omega), Option.bind_some, e3, decide_eq_false (by omega), show (k + 2 * t.length + 2) + 9 = (k + 2 * t.length + 1) + 9 + 1 by omega, log_parse.j1, if_neg (by decide), word_f (k + 2 * t.length + 1) _ (by omega) (by omega), Option.bind_some, e1, e2, hlen', if_pos (by omega), if_pos (by omega), Int.toNat_natCast, htk, hcl, Option.bind_some, if_pos (by omega), if_pos (by omega), hdr, show (k + 2 * t.length + 1) + 9 = k + 9 + 2 * t.length + 1 by omega]
    rw [parse_l0 t (acc ++ [r]) k (by omega) (by rw [List.length_append, List.length_singleton]; omega), List.append_assoc]
    rfl
theorem parse_ex (rs : List (List Int)) (hm : layLen rs ≤ 1000000) : ∃ k, log_parse.f k (layP rs) = some (rs, true) := by
  have hc := layLen_count rs
  exact ⟨_, parse_l0 rs [] 0 (by omega) (by rw [List.length_nil]; omega)⟩

end Go.Proofs.Ytpkhpfgojhojaaa.PLg

namespace Go.Proofs.Ytpkhpfgojhojaaa.PLg
open Go.RowKit Go.Proofs.YtpkhpfgojhojaaaW.PrintWords Go.Proofs.YtpkhpfgojhojaaaW.PrintLast Go.Proofs.YtpkhpfgojhojaaaW.PrintMore
attribute [local go_sem] max2_int min2_int max_two min_two max_three min_three max_four min_four
set_option linter.unusedVariables false
set_option linter.unusedSimpArgs false
-- FUNCTION: gangway/log.Open
-- IMPORT: Derived.Test.@N@WOwn
-- IMPORT: Derived.Test.@N@DLoad
-- IMPORT: Derived.Test.@N@DLgops
def AskAt (b : List Int) (ar : Nat) (nr sz : Int) : Prop := (NoHead b ∧ nr = 0 ∧ sz = 0) ∨ (HeadAt b nr sz ∧ 0 ≤ sz ∧ sz ≤ (ar : Int) * 64)
def pickH (q0 q1 : Int × Int) : Nat → Int × Int
  | 0 => (0, 0)
  | 1 => if q0.1 > 0 then q0 else (0, 0)
  | _ + 2 => if q1.1 > (if q0.1 > 0 then q0 else (0, 0)).1 then q1 else (if q0.1 > 0 then q0 else (0, 0))
/-- What Open makes of a disk's bytes. -/
def OpensTo (E : List Int) (nr : Int) (rs : List (List Int)) : Prop :=
  ∃ (q0 q1 : Int × Int) (sz : Nat) (k : Nat), AskAt (sec E 0) (areaOf E.length) q0.1 q0.2 ∧ AskAt (sec E 1) (areaOf E.length) q1.1 q1.2 ∧ 0 ≤ nr ∧ pickH q0 q1 2 = (nr, (sz : Int)) ∧ sz ≤ areaOf E.length * 64 ∧
    log_parse.f k ((E.drop ((2 + (nr % 2).toNat * areaOf E.length) * 64)).take sz) = some (rs, true)
theorem lg_asked (g i : Nat) (w : World) (bd : Nat) (ok : Nat → Prop) (d : Nat) (y : Dk) (cu : Int) (rs : List (List Int)) (fr : Bool) (h : LgAt w bd ok g d ⟨y, cu, rs, fr⟩) (hoff : y.off = false) (hi : (i : Int) < (y.E.length : Int) / 64) (nr sz : Int) (hh : AskAt (sec y.E i) (areaOf y.E.length) nr sz) :
    Calls Try.prog 57 #[.pointer (some ⟨g, 0, none⟩), .int .i64 i] w fun e w' => e = .returned (.tuple #[.int .u64 nr, .int .i64 sz, .int .i64 0]) ∧ Below w.heap.size w w' := by
  unfold AskAt at hh
  exact log_Log_asked.walk g i w bd ok d ⟨y, cu, rs, fr⟩ h hoff hi nr sz hh
theorem lg_load (k g sz : Nat) (w : World) (bd : Nat) (ok : Nat → Prop) (d : Nat) (y : Dk) (nr : Int) (rs0 rs : List (List Int)) (fr : Bool) (h : LgAt w bd ok g d ⟨y, nr, rs0, fr⟩) (hoff : y.off = false) (h2 : 128 ≤ y.E.length) (hnr : 0 ≤ nr) (hsz : sz ≤ areaOf y.E.length * 64) (hbd : bd ≤ w.heap.size) (hp : log_parse.f k ((y.E.drop ((2 + (nr % 2).toNat * areaOf y.E.length) * 64)).take sz) = some (rs, true)) :
    Calls Try.prog 58 #[.pointer (some ⟨g, 0, none⟩), .int .i64 sz] w fun e w' => e = .returned (.int .i64 0) ∧ LgAt w' bd (fun k => ok k ∨ w.heap.size ≤ k) g d ⟨y, nr, rs, fr⟩ ∧ Kept w w' (fun k => k = g) ∧ Below bd w w' :=
  log_Log_load.walk k g sz w bd ok d ⟨y, nr, rs0, fr⟩ rs h hoff h2 hnr hsz hbd hp
set_option maxHeartbeats 8000000 in
set_option maxRecDepth 100000 in
theorem lg_Open (d : Nat) (w : World) (bd : Nat) (ok : Nat → Prop) (y : Dk) (nr : Int) (rs : List (List Int)) (b : List Int) (h : DkAt w bd ok d y) (hbd : bd ≤ w.heap.size) (ho : y.off = false) (h2 : 128 ≤ y.E.length) (hop : OpensTo y.E nr rs) (hL : Lays rs b) :
    Calls Try.prog 34 #[.pointer (some ⟨d, 0, none⟩)] w fun e w' => ∃ (g N : Nat) (v : Value), e = .returned (.tuple #[.pointer (some ⟨g, 0, none⟩), v, .int .i64 0]) ∧ LgAt w' bd (fun k => (ok k ∨ w.heap.size ≤ k) ∧ k < N) g d ⟨y, nr, rs, true⟩ ∧ w.heap.size ≤ N ∧ N ≤ w'.heap.size ∧ Kd.S (Kd.slice 5 (Kd.int .u8)) 30 w' N (fun _ => True) v rs ∧ Below w.heap.size w w' := by
  obtain ⟨q0, q1, sz, k, ha0, ha1, hnr, hpk, hsz, hp⟩ := hop
  have HRD := Aside0.mk (read0_on h.fits ho)
  have HD := Aside0.mk h
  have HOFF := Aside0.mk ho
  have H128 := Aside0.mk h2
  have HA0 := Aside0.mk ha0
  have HA1 := Aside0.mk ha1
  have HNR := Aside0.mk hnr
  have HPK := Aside0.mk hpk
  have HSZ := Aside0.mk hsz
  have HP := Aside0.mk hp
  have HL := Aside0.mk hL
  have HBD := Aside0.mk hbd
  have hls := Try.underlying94
  clear h ho h2 ha0 ha1 hnr hpk hsz hp hL hbd
  go_enter Try.func34, Try.ntmps34
  go_wp2_with fail
  refine (dk_Read d 0 _ _ _ _ HD.out).mono ?_
  rintro e' w1 ⟨v1, rfl, hR, hb⟩
  rw [HRD.out]
  have HB1 := Aside0.mk hb
  clear hR hb
  have HWL : Aside0 (w.heap.size ≤ w1.heap.size) := ⟨HB1.out.size⟩
  have HL1 : Aside0 (LgAt (w1.alloc (.cells #[.pointer (some ⟨d, 0, none⟩), .int .u64 0, .slice none 0 0, .bool true] 94)) bd (fun k => ok k ∨ w.heap.size ≤ k) w1.heap.size d ⟨y, 0, [], true⟩) := ⟨by
    have hw := HWL.out
    have hbd := HBD.out
    exact ⟨_, fun _ => False, _, blk_new w1 _, (HD.out.bound.below (below_alloc HB1.out _)), Kd.R_nil _ _ _ _ _, fun _ _ h => h, fun hk => by have := hk.2.2; omega, id, .inr hw, by omega, fun k hk => .inl hk.1, fun _ h => h.elim⟩⟩
  have HG1 := Aside0.mk (blk_new w1 (.cells #[.pointer (some ⟨d, 0, none⟩), .int .u64 0, .slice none 0 0, .bool true] 94))
  have HB2 := Aside0.mk (below_alloc HB1.out (.cells #[.pointer (some ⟨d, 0, none⟩), .int .u64 0, .slice none 0 0, .bool true] 94))
  go_wp2
  obtain ⟨g, hg⟩ : ∃ g, g = w1.heap.size := ⟨_, rfl⟩
  rw [← hg] at HL1 HG1 HWL
  rw [← hg]
  have HGE : Aside0 (w.heap.size ≤ g) := HWL
  clear HWL hg
  go_loopw [8, 27] (fun v8 v27 w' => ∃ i : Nat, i ≤ 2 ∧ v8 = .int .i64 (pickH q0 q1 i).2 ∧ v27 = .int .i64 i ∧ Aside0 (LgAt w' bd (fun k => ok k ∨ w.heap.size ≤ k) g d ⟨y, (pickH q0 q1 i).1, [], true⟩) ∧ Aside0 (w'.heap[g]? = some (.cells #[.pointer (some ⟨d, 0, none⟩), .int .u64 (pickH q0 q1 i).1, .slice none 0 0, .bool true] 94 (0, 0))) ∧ Aside0 (Below w.heap.size w w')) (fun _ v27 _ => 2 - (intOf v27).toNat)
  case atStart => exact ⟨0, Nat.zero_le _, rfl, rfl, HL1, HG1, HB2⟩
  case round =>
    clear HL1 HG1 HB2
    obtain ⟨i, hi, rfl, rfl, HLG, HGC, HB⟩ := hrel
    by_cases hlt : i < 2
    · have hex : ∃ nn ss, AskAt (sec y.E i) (areaOf y.E.length) nn ss ∧ pickH q0 q1 (i + 1) = if nn > (pickH q0 q1 i).1 then (nn, ss) else pickH q0 q1 i := by
        rcases (by omega : i = 0 ∨ i = 1) with rfl | rfl
        · exact ⟨q0.1, q0.2, HA0.out, rfl⟩
        · exact ⟨q1.1, q1.2, HA1.out, rfl⟩
      obtain ⟨nn, ss, hask, hnx⟩ := hex
      obtain ⟨⟨cu, cs⟩, hcu⟩ : ∃ q, q = pickH q0 q1 i := ⟨_, rfl⟩
      have HNX := Aside0.mk hnx
      have HASK := Aside0.mk hask
      rw [← hcu] at HNX HLG HGC
      rw [← hcu]
      clear hnx hask hcu
      have h128 := H128.out
      have hlg : LgAt wr bd (fun k => ok k ∨ w.heap.size ≤ k) g d ⟨y, cu, [], true⟩ := HLG.out
      have hgc : wr.heap[g]? = some (.cells #[.pointer (some ⟨d, 0, none⟩), .int .u64 cu, .slice none 0 0, .bool true] 94 (0, 0)) := HGC.out
      have hnx : pickH q0 q1 (i + 1) = if nn > cu then (nn, ss) else (cu, cs) := HNX.out
      have HLG := Aside0.mk hlg
      have HGC := Aside0.mk hgc
      have HIE : Aside0 ((i : Int) < (y.E.length : Int) / 64) := ⟨by omega⟩
      by_cases hgt : nn > cu
      · rw [if_pos hgt] at hnx
        have HNX := Aside0.mk hnx
        have t1 : decide (nn > cu) = true := decide_eq_true hgt
        have t2 : decide (cu < nn) = true := decide_eq_true hgt
        clear hnx hgt hlg hgc h128
        go_wp2_with fail
        refine (lg_asked g i _ _ _ _ _ _ _ _ HLG.out HOFF.out HIE.out nn ss HASK.out).mono ?_
        rintro e' w2 ⟨rfl, hb⟩
        have HL2 := Aside0.mk (HLG.out.below hb)
        have HG2 := Aside0.mk (blk_below HGC.out hb)
        have HB2 := Aside0.mk (below_step HB.out hb)
        have hc1 := (blk_cell HG2.out 1).trans rfl
        have hf1 := blk_frozen HG2.out 1
        clear hb
        go_wp2
        go_roundw
        case rel =>
          have hk : Kept w2 (w2.setCell ⟨g, 1, none⟩ (.int .u64 nn)) (fun k => k = g) := (Kept.refl w2 (fun k => k = g)).setCell (p := ⟨g, 1, none⟩) (.inl rfl) _
          refine ⟨i + 1, by omega, by rw [HNX.out], by go_num, ⟨?_⟩, ⟨?_⟩, ⟨HB2.out.setCell (p := ⟨g, 1, none⟩) HGE.out _⟩⟩
          · rw [HNX.out]
            exact HL2.out.put0 hk (fun v hv => blk_set hv 1 _)
          · rw [HNX.out]
            exact blk_set HG2.out 1 _
        case measure => simp [intOf]; omega
      · rw [if_neg hgt] at hnx
        have HNX := Aside0.mk hnx
        have t1 : decide (nn > cu) = false := decide_eq_false hgt
        have t2 : decide (cu < nn) = false := decide_eq_false hgt
        clear hnx hgt hlg hgc h128
        go_wp2_with fail
        refine (lg_asked g i _ _ _ _ _ _ _ _ HLG.out HOFF.out HIE.out nn ss HASK.out).mono ?_
        rintro e' w2 ⟨rfl, hb⟩
        have HL2 := Aside0.mk (HLG.out.below hb)
        have HG2 := Aside0.mk (blk_below HGC.out hb)
        have HB2 := Aside0.mk (below_step HB.out hb)
        have hc1 := (blk_cell HG2.out 1).trans rfl
        clear hb
        go_wp2
        go_roundw
        case rel => exact ⟨i + 1, by omega, by rw [HNX.out], by go_num, ⟨by rw [HNX.out]; exact HL2.out⟩, ⟨by rw [HNX.out]; exact HG2.out⟩, HB2⟩
        case measure => simp [intOf]; omega
    · obtain rfl : i = 2 := by omega
      have hpk := HPK.out
      rw [hpk] at HLG HGC
      rw [hpk]
      have hlg : LgAt wr bd (fun k => ok k ∨ w.heap.size ≤ k) g d ⟨y, nr, [], true⟩ := HLG.out
      have HLG := Aside0.mk hlg
      have HBW : Aside0 (bd ≤ wr.heap.size) := ⟨Nat.le_trans HBD.out HB.out.size⟩
      clear hlt hlg hpk HGC
      go_wp2_with fail
      refine (lg_load k g sz _ _ _ _ _ _ _ rs _ HLG.out HOFF.out H128.out HNR.out HSZ.out HBW.out HP.out).mono ?_
      rintro e' w2 ⟨rfl, hl, hk, hb⟩
      have HL2 := Aside0.mk (hl.mono (ok' := fun k => ok k ∨ w.heap.size ≤ k) (fun k hk => hk.elim id (fun q => .inr (Nat.le_trans HB.out.size q)))).bound
      have HBK : Aside0 (Below w.heap.size w w2) := ⟨⟨hb.os.trans HB.out.os, hb.tape.trans HB.out.tape, hb.output.trans HB.out.output, Nat.le_trans HB.out.size hb.size, fun k hlt => (hk.2 k (Nat.lt_of_lt_of_le hlt HB.out.size) (fun e => by have := HGE.out; omega)).trans (HB.out.block k hlt)⟩⟩
      clear hl hk hb
      go_wp2_with fail
      refine (lg_Records g _ _ _ _ _ b HL2.out HL.out).mono ?_
      rintro e' w3 ⟨v, rfl, hS, hb⟩
      obtain ⟨Av, cv, rfl⟩ := Kd.S_slice hS
      have HS := Aside0.mk hS
      have HL3 := Aside0.mk (HL2.out.below hb)
      have HB3 := Aside0.mk (below_step HBK.out hb)
      have HSZ3 := Aside0.mk hb.size
      clear hS hb
      go_wp2
      go_ret3
      exact ⟨g, w2.heap.size, _, rfl, HL3.out, HBK.out.size, HSZ3.out, HS.out, HB3.out⟩

end Go.Proofs.Ytpkhpfgojhojaaa.PLg

namespace Go.Proofs.Ytpkhpfgojhojaaa.PLg
open Go.RowKit Go.Proofs.YtpkhpfgojhojaaaW.PrintWords Go.Proofs.YtpkhpfgojhojaaaW.PrintLast Go.Proofs.YtpkhpfgojhojaaaW.PrintMore
attribute [local go_sem] max2_int min2_int max_two min_two max_three min_three max_four min_four
set_option linter.unusedVariables false
set_option linter.unusedSimpArgs false
-- IMPORT: Derived.Test.@N@WOwn
-- IMPORT: Derived.Test.@N@DLpure3
/-! ### What a disk's bytes hold: a log of a number and of records. -/
def Other (b : List Int) (ar : Nat) (nr : Int) : Prop := NoHead b ∨ ∃ m s, HeadAt b m s ∧ 0 ≤ s ∧ s ≤ (ar : Int) * 64 ∧ 0 ≤ m ∧ m < nr
def Holds (E : List Int) (nr : Int) (rs : List (List Int)) : Prop :=
  0 ≤ nr ∧ layLen rs ≤ areaOf E.length * 64 ∧ layLen rs ≤ 1000000 ∧ (E.drop ((2 + (nr % 2).toNat * areaOf E.length) * 64)).take (layLen rs) = layP rs ∧
    ((nr = 0 ∧ rs = [] ∧ NoHead (sec E 0) ∧ NoHead (sec E 1)) ∨ (1 ≤ nr ∧ HeadAt (sec E (nr % 2).toNat) nr (layLen rs : Int) ∧ Other (sec E ((nr + 1) % 2).toNat) (areaOf E.length) nr))
theorem other_ask {b : List Int} {ar : Nat} {nr : Int} (h : Other b ar nr) (hn : 1 ≤ nr) : ∃ q : Int × Int, AskAt b ar q.1 q.2 ∧ 0 ≤ q.1 ∧ q.1 < nr := by
  rcases h with h | ⟨m, s, h1, h2, h3, h4, h5⟩
  · exact ⟨(0, 0), .inl ⟨h, rfl, rfl⟩, Int.le_refl _, by show (0 : Int) < nr; omega⟩
  · exact ⟨(m, s), .inr ⟨h1, h2, h3⟩, h4, h5⟩
theorem holds_opens {E : List Int} {nr : Int} {rs : List (List Int)} (h : Holds E nr rs) : OpensTo E nr rs := by
  obtain ⟨h0, h1, h2, h3, h4⟩ := h
  obtain ⟨k, hk⟩ := parse_ex rs h2
  rw [← h3] at hk
  rcases h4 with ⟨rfl, rfl, ha, hb⟩ | ⟨hn, ha, hb⟩
  · exact ⟨(0, 0), (0, 0), 0, k, .inl ⟨ha, rfl, rfl⟩, .inl ⟨hb, rfl, rfl⟩, Int.le_refl _, rfl, Nat.zero_le _, hk⟩
  · obtain ⟨q, hq, q0, q1⟩ := other_ask hb hn
    have hA : AskAt (sec E (nr % 2).toNat) (areaOf E.length) nr (layLen rs : Int) := .inr ⟨ha, by omega, by omega⟩
    rcases (by omega : nr % 2 = 0 ∨ nr % 2 = 1) with e | e
    · have e2 : (nr + 1) % 2 = 1 := by omega
      rw [e] at hA hk
      rw [e2] at hq
      refine ⟨(nr, (layLen rs : Int)), q, layLen rs, k, hA, hq, h0, ?_, h1, by rw [e]; exact hk⟩
      unfold pickH
      rw [if_pos (show (nr, (layLen rs : Int)).1 > 0 by show nr > 0; omega), if_neg (by show ¬ q.1 > nr; omega)]
    · have e2 : (nr + 1) % 2 = 0 := by omega
      rw [e] at hA hk
      rw [e2] at hq
      refine ⟨q, (nr, (layLen rs : Int)), layLen rs, k, hq, hA, h0, ?_, h1, by rw [e]; exact hk⟩
      have hgt : nr > (if q.1 > 0 then q else (0, 0)).1 := by
        split
        · omega
        · show nr > 0; omega
      show (if nr > (if q.1 > 0 then q else (0, 0)).1 then (nr, (layLen rs : Int)) else (if q.1 > 0 then q else (0, 0))) = _
      rw [if_pos hgt]
/-- A disk of noughts holds an empty log. -/
theorem holds_zero (c : Nat) (hc : 2 ≤ c) : Holds (List.replicate (c * 64) 0) 0 [] := by
  have hs : ∀ j, j < c → sec (List.replicate (c * 64) (0 : Int)) j = List.replicate 64 0 := fun j hj => by
    unfold sec
    rw [List.drop_replicate, List.take_replicate]
    congr 1
    omega
  exact ⟨Int.le_refl _, Nat.zero_le _, Nat.zero_le _, by rw [show layLen ([] : List (List Int)) = 0 from rfl, List.take_zero]; rfl, .inl ⟨rfl, rfl, by rw [hs 0 (by omega)]; exact noHead_zero, by rw [hs 1 (by omega)]; exact noHead_zero⟩⟩

end Go.Proofs.Ytpkhpfgojhojaaa.PLg

namespace Go.Proofs.Ytpkhpfgojhojaaa.PLg
open Go.RowKit Go.Proofs.YtpkhpfgojhojaaaW.PrintWords Go.Proofs.YtpkhpfgojhojaaaW.PrintLast Go.Proofs.YtpkhpfgojhojaaaW.PrintMore
attribute [local go_sem] max2_int min2_int max_two min_two max_three min_three max_four min_four   -- for this text's walks alone
set_option linter.unusedVariables false
set_option linter.unusedSimpArgs false

-- NOT PRINTED: function 13 (disk_Disk_Crash)

-- NOT PRINTED: function 40 (gangwaylaw12_Again)

-- NOT PRINTED: function 41 (gangwaylaw12_wakes)

-- NOT PRINTED: function 6 (gangwaylaw12_LogLasts)

/-! ### gangwaylaw0_Within: function 11 -/
def gangwaylaw0_Within.f (a0 : Int) (a1 : Int) : Option (Int) := if (IntKind.u64.wrap (a1)) = 0 then (none) else (some (wrap64 (Int.tmod (IntKind.u64.wrap (a0)) (IntKind.u64.wrap (a1)))))
set_option maxHeartbeats 8000000 in
set_option maxRecDepth 100000 in
theorem gangwaylaw0_Within.calls (a0 : Int) (a1 : Int) (r : Int) (w : World) (h : gangwaylaw0_Within.f a0 a1 = some r) :
    Calls Try.prog 11 #[.int .i64 a0, .int .i64 a1] w fun e w' => e = .returned (.int .i64 r) ∧ Drawn0 w w' := by
  have H : (if (IntKind.u64.wrap (a1)) = 0 then (none) else (some (wrap64 (Int.tmod (IntKind.u64.wrap (a0)) (IntKind.u64.wrap (a1)))))) = some r := h
  clear h
  by_cases c3 : (IntKind.u64.wrap (a1)) = 0
  · rw [if_pos c3] at H
    exact absurd H (by simp)
  · rw [if_neg c3] at H
    have c3b0 : ((IntKind.u64.wrap (a1)) == 0) = false := beq_eq_false_iff_ne.mpr c3
    have c3b1 : ((IntKind.u64.wrap (a1)) != 0) = true := bne_iff_ne.mpr c3
    obtain rfl := Option.some.inj H
    go_enter Try.func11, Try.ntmps11
    go_wp2
    go_ret
    exact ⟨by first | rfl | (simp; done) | (simp [*]; done), by repeat (first | exact Drawn0.refl _ | apply Drawn0.step)⟩

end Go.Proofs.Ytpkhpfgojhojaaa.PLg

namespace Go.Proofs.Ytpkhpfgojhojaaa.PLg
open Go.RowKit Go.Proofs.YtpkhpfgojhojaaaW.PrintWords Go.Proofs.YtpkhpfgojhojaaaW.PrintLast Go.Proofs.YtpkhpfgojhojaaaW.PrintMore
attribute [local go_sem] max2_int min2_int max_two min_two max_three min_three max_four min_four
set_option linter.unusedVariables false
set_option linter.unusedSimpArgs false
-- IMPORT: Derived.Test.@N@WOwn
-- IMPORT: Derived.Test.@N@DWakes
theorem sec_ext {a b : List Int} {n : Nat} (ha : a.length = n * 64) (hb : b.length = n * 64) (h : ∀ j, j < n → sec a j = sec b j) : a = b := by
  apply List.ext_getElem (by omega)
  intro i h1 h2
  have hj := h (i / 64) (by omega)
  have e : ∀ l : List Int, l.length = n * 64 → (sec l (i / 64))[i % 64]? = l[i]? := fun l hl => by
    unfold sec
    rw [List.getElem?_take, if_pos (by omega), List.getElem?_drop]
    congr 1
    omega
  have := (e a ha).symm.trans ((congrArg (fun q => q[i % 64]?) hj).trans (e b hb))
  rw [List.getElem?_eq_getElem h1, List.getElem?_eq_getElem h2] at this
  exact Option.some.inj this
theorem sec_splice_same (L b : List Int) (i : Nat) (h : i * 64 + 64 ≤ L.length) (hb : b.length = 64) : sec (splice L (i * 64) b) i = b := by
  unfold sec splice
  rw [List.drop_append, List.length_take, List.drop_eq_nil_of_le (by rw [List.length_take]; omega), show i * 64 - min (i * 64) L.length = 0 by omega, List.drop_zero, List.nil_append, List.take_append_of_le_length (by omega), List.take_of_length_le (by omega)]
theorem sec_splice_other (L b : List Int) (i j : Nat) (h : i * 64 + 64 ≤ L.length) (hb : b.length = 64) (hij : i ≠ j) : sec (splice L (i * 64) b) j = sec L j := by
  apply List.ext_getElem?
  intro q
  unfold sec splice
  rw [List.getElem?_take, List.getElem?_take]
  split
  · rename_i hq
    rw [List.getElem?_drop, List.getElem?_drop, List.getElem?_append, List.length_take]
    split
    · rename_i h2
      rw [List.getElem?_take, if_pos (by omega)]
    · rename_i h2
      rw [List.getElem?_append, if_neg (by omega), List.getElem?_drop]
      congr 1
      omega
  · rfl
/-- Each sector that a crash leaves is the safe one or the seen one. -/
theorem crash_secs (S E : List Int) : ∀ (k i : Nat) (b ps : List Int), b.length = E.length → S.length = E.length → (i + k) * 64 ≤ E.length → (∀ j, j < i → sec b j = sec S j ∨ sec b j = sec E j) → (∀ j, i ≤ j → sec b j = sec S j) →
    ∀ j, j < i + k → sec (crashL S E k i b ps) j = sec S j ∨ sec (crashL S E k i b ps) j = sec E j
  | 0, i, b, ps, _, _, _, h1, h2, j, hj => h1 j (by omega)
  | k + 1, i, b, ps, hb, hs, hl, h1, h2, j, hj => by
    rw [crashL]
    split
    · exact crash_secs S E k (i + 1) b ps hb hs (by omega) (fun q hq => by
        by_cases e : q = i
        · exact .inl (h2 q (by omega))
        · exact h1 q (by omega)) (fun q hq => h2 q (by omega)) j (by omega)
    · split
      · exact crash_secs S E k (i + 1) b ps.tail hb hs (by omega) (fun q hq => by
          by_cases e : q = i
          · exact .inl (h2 q (by omega))
          · exact h1 q (by omega)) (fun q hq => h2 q (by omega)) j (by omega)
      · have hse : (sec E i).length = 64 := length_sec E i (by omega)
        exact crash_secs S E k (i + 1) (splice b (i * 64) (sec E i)) ps.tail (by rw [length_splice _ _ _ (by omega), hb]) hs (by omega) (fun q hq => by
          by_cases e : q = i
          · subst e; exact .inr (sec_splice_same b (sec E q) q (by omega) hse)
          · rw [sec_splice_other b (sec E i) i q (by omega) hse (fun e' => e e'.symm)]; exact h1 q (by omega)) (fun q hq => by
          rw [sec_splice_other b (sec E i) i q (by omega) hse (by omega)]; exact h2 q (by omega)) j (by omega)
theorem within_f (a : Int) (n : Nat) (h0 : 0 < n) (hn : n < 2147483648) : ∃ r : Int, gangwaylaw0_Within.f a (n : Int) = some r ∧ 0 ≤ r ∧ r < (n : Int) := by
  have e1 : IntKind.u64.wrap (n : Int) = (n : Int) := by show ((n : Int) % 18446744073709551616) = _; omega
  unfold gangwaylaw0_Within.f
  rw [e1, if_neg (by omega)]
  have h1 : 0 ≤ IntKind.u64.wrap a := by show 0 ≤ a % 18446744073709551616; omega
  have h2 : 0 ≤ Int.tmod (IntKind.u64.wrap a) (n : Int) := Int.tmod_nonneg _ h1
  have h3 : Int.tmod (IntKind.u64.wrap a) (n : Int) < (n : Int) := Int.tmod_lt_of_pos _ (by omega)
  refine ⟨_, rfl, ?_, ?_⟩ <;> (unfold wrap64; omega)
end Go.Proofs.Ytpkhpfgojhojaaa.PLg

namespace Go.Proofs.Ytpkhpfgojhojaaa.PLg
open Go.RowKit Go.Proofs.YtpkhpfgojhojaaaW.PrintWords Go.Proofs.YtpkhpfgojhojaaaW.PrintLast Go.Proofs.YtpkhpfgojhojaaaW.PrintMore
attribute [local go_sem] max2_int min2_int max_two min_two max_three min_three max_four min_four
set_option linter.unusedVariables false
set_option linter.unusedSimpArgs false
-- IMPORT: Derived.Test.@N@WOwn
-- IMPORT: Derived.Test.@N@DLhold
-- IMPORT: Derived.Test.@N@DSafepure
theorem get_sec (E : List Int) (i : Nat) : E[i]? = (sec E (i / 64))[i % 64]? := by
  unfold sec
  rw [List.getElem?_take, if_pos (Nat.mod_lt _ (by decide)), List.getElem?_drop]
  congr 1
  omega
theorem area_same {E E' : List Int} {f a L : Nat} (h : ∀ j, f ≤ j → j < f + a → sec E' j = sec E j) (hL : L ≤ a * 64) : (E'.drop (f * 64)).take L = (E.drop (f * 64)).take L := by
  apply List.ext_getElem?
  intro t
  rw [List.getElem?_take, List.getElem?_take]
  by_cases ht : t < L
  · rw [if_pos ht, if_pos ht, List.getElem?_drop, List.getElem?_drop, get_sec, get_sec E, h _ (by omega) (by omega)]
  · rw [if_neg ht, if_neg ht]
theorem holds_same {E E' : List Int} {nr : Int} {rs : List (List Int)} (h : Holds E nr rs) (hl : E'.length = E.length) (h0 : sec E' 0 = sec E 0) (h1 : sec E' 1 = sec E 1)
    (ha : ∀ j, 2 + (nr % 2).toNat * areaOf E.length ≤ j → j < 2 + (nr % 2).toNat * areaOf E.length + areaOf E.length → sec E' j = sec E j) : Holds E' nr rs := by
  obtain ⟨q0, q1, q2, q3, q4⟩ := h
  refine ⟨q0, by rw [hl]; exact q1, q2, by rw [hl, area_same ha q1]; exact q3, ?_⟩
  rcases q4 with ⟨e1, e2, e3, e4⟩ | ⟨e1, e2, e3⟩
  · exact .inl ⟨e1, e2, by rw [h0]; exact e3, by rw [h1]; exact e4⟩
  · refine .inr ⟨e1, ?_, ?_⟩
    · rcases (by omega : nr % 2 = 0 ∨ nr % 2 = 1) with e | e
      · rw [e] at e2 ⊢
        show HeadAt (sec E' 0) _ _
        rw [h0]; exact e2
      · rw [e] at e2 ⊢
        show HeadAt (sec E' 1) _ _
        rw [h1]; exact e2
    · rw [hl]
      rcases (by omega : (nr + 1) % 2 = 0 ∨ (nr + 1) % 2 = 1) with e | e
      · rw [e] at e3 ⊢
        show Other (sec E' 0) _ _
        rw [h0]; exact e3
      · rw [e] at e3 ⊢
        show Other (sec E' 1) _ _
        rw [h1]; exact e3
/-- The own area's sectors say the area's bytes. -/
theorem padTo_take (l : List Int) (h : l.length ≤ 64) : (padTo l).take l.length = l := by
  unfold padTo splice
  rw [List.take_zero, List.nil_append, List.take_append_of_le_length (Nat.le_refl _), List.take_of_length_le (Nat.le_refl _)]
/-- What write leaves of the disk. -/
structure WrOk (y y' : Dk) (i n : Nat) : Prop where
  S : y'.S = y.S
  len : y'.E.length = y.E.length
  tr : y'.tr = y.tr
  far : ∀ j, j < i ∨ i + n ≤ j → sec y'.E j = sec y.E j
theorem wr_one (y : Dk) (i : Nat) (b : List Int) (ho : y.off = false) (hE : y.E.length % 64 = 0) (hi : (i + 1) * 64 ≤ y.E.length) (hb : b.length = 64) :
    WrOk y (y.write (i : Int) b).1 i 1 ∧ sec (y.write (i : Int) b).1.E i = b ∧ (((y.write (i : Int) b).2 = 0 ∧ (y.write (i : Int) b).1.off = false) ∨ (y.write (i : Int) b).2 = 103) := by
  have hc : 0 ≤ (i : Int) ∧ (i : Int) < (y.E.length : Int) / 64 ∧ b.length = 64 := ⟨by omega, by omega, hb⟩
  have hw : y.write (i : Int) b = ({ y with n := wrap64 (y.n + 1), off := y.tr (wrap64 (y.n + 1)), E := splice y.E (i * 64) b }, if y.tr (wrap64 (y.n + 1)) = true then 103 else 0) := by
    unfold Dk.write
    rw [if_pos hc, if_neg (by rw [ho]; decide), Int.toNat_natCast]
  rw [hw]
  refine ⟨⟨rfl, length_splice _ _ _ (by omega), rfl, fun j hj => sec_splice_other _ _ _ _ (by omega) hb (by omega)⟩, sec_splice_same _ _ _ (by omega) hb, ?_⟩
  show ((if y.tr (wrap64 (y.n + 1)) = true then (103 : Int) else 0) = 0 ∧ y.tr (wrap64 (y.n + 1)) = false) ∨ (if y.tr (wrap64 (y.n + 1)) = true then (103 : Int) else 0) = 103
  by_cases ht : y.tr (wrap64 (y.n + 1)) = true
  · rw [if_pos ht]; exact .inr rfl
  · rw [if_neg ht]; exact .inl ⟨rfl, by simpa using ht⟩
theorem wrL_spec : ∀ (k : Nat) (y : Dk) (i : Nat) (b : List Int), b.length < k → y.off = false → y.E.length % 64 = 0 → (i + (b.length + 63) / 64) * 64 ≤ y.E.length →
    WrOk y (wrL k y (i : Int) b).1 i ((b.length + 63) / 64) ∧ (((wrL k y (i : Int) b).2 = 0 ∧ (wrL k y (i : Int) b).1.off = false ∧ ((wrL k y (i : Int) b).1.E.drop (i * 64)).take b.length = b) ∨ (wrL k y (i : Int) b).2 = 103)
  | 0, y, i, b, hk, ho, hE, hi => by omega
  | k + 1, y, i, b, hk, ho, hE, hi => by
    by_cases hz : b.length = 0
    · rw [wrL, if_pos hz]
      exact ⟨⟨rfl, rfl, rfl, fun j _ => rfl⟩, .inl ⟨rfl, ho, by rw [hz, List.take_zero]; exact (List.eq_nil_of_length_eq_zero hz).symm⟩⟩
    · have hn : 1 ≤ (b.length + 63) / 64 := by omega
      obtain ⟨w1, w2, w3⟩ := wr_one y i (padTo (b.take 64)) ho hE (by omega) (length_padTo _ (List.length_take_le _ _))
      rw [wrL, if_neg hz]
      rcases w3 with ⟨c0, ho1⟩ | c1
      · rw [if_neg (fun h => h c0)]
        obtain ⟨y1, hy1⟩ : ∃ y1, y1 = (y.write (i : Int) (padTo (b.take 64))).1 := ⟨_, rfl⟩
        rw [← hy1] at w1 w2 ho1 ⊢
        have hd : (b.drop 64).length = b.length - 64 := List.length_drop
        have ih := wrL_spec k y1 (i + 1) (b.drop 64) (by omega) ho1 (by rw [w1.len]; exact hE) (by rw [w1.len, hd]; omega)
        rw [show ((i + 1 : Nat) : Int) = (i : Int) + 1 by omega, hd] at ih
        obtain ⟨v1, v2⟩ := ih
        refine ⟨⟨v1.S.trans w1.S, v1.len.trans w1.len, v1.tr.trans w1.tr, fun j hj => (v1.far j (by omega)).trans (w1.far j (by omega))⟩, ?_⟩
        rcases v2 with ⟨u0, u1, u2⟩ | u
        · refine .inl ⟨u0, u1, ?_⟩
          have hsi : sec (wrL k y1 ((i : Int) + 1) (b.drop 64)).1.E i = padTo (b.take 64) := (v1.far i (by omega)).trans w2
          unfold sec at hsi
          have ht : (b.take 64).length = min 64 b.length := List.length_take
          by_cases hs : b.length ≤ 64
          · have e1 := padTo_take (b.take 64) (by omega)
            rw [← hsi, List.take_take, ht, show min (min 64 b.length) 64 = b.length by omega] at e1
            rw [e1, List.take_of_length_le hs]
          · rw [show b.length = 64 + (b.length - 64) by omega, List.take_add, List.drop_drop, show i * 64 + 64 = (i + 1) * 64 by omega, hsi, u2]
            have e1 := padTo_take (b.take 64) (by omega)
            rw [List.take_of_length_le (by rw [length_padTo _ (by omega)]; omega)] at e1
            rw [e1]
            exact List.take_append_drop 64 b
        · exact .inr u
      · rw [if_pos (by rw [c1]; decide)]
        exact ⟨⟨w1.S, w1.len, w1.tr, fun j hj => w1.far j (by omega)⟩, .inr c1⟩

end Go.Proofs.Ytpkhpfgojhojaaa.PLg

namespace Go.Proofs.Ytpkhpfgojhojaaa.PLg
open Go.RowKit Go.Proofs.YtpkhpfgojhojaaaW.PrintWords Go.Proofs.YtpkhpfgojhojaaaW.PrintLast Go.Proofs.YtpkhpfgojhojaaaW.PrintMore
attribute [local go_sem] max2_int min2_int max_two min_two max_three min_three max_four min_four
set_option linter.unusedVariables false
set_option linter.unusedSimpArgs false
-- IMPORT: Derived.Test.@N@WOwn
-- IMPORT: Derived.Test.@N@DLmix
/-- What a crash may leave: each sector is the safe one or the seen one. -/
def Mix (S E C : List Int) : Prop := C.length = E.length ∧ ∀ j, j < E.length / 64 → sec C j = sec S j ∨ sec C j = sec E j
theorem flush_spec (y : Dk) (ho : y.off = false) : (y.flush.2 = 0 ∧ y.flush.1.off = false ∧ y.flush.1.S = y.E ∧ y.flush.1.E = y.E ∧ y.flush.1.tr = y.tr) ∨ (y.flush.2 = 103 ∧ y.flush.1.S = y.S ∧ y.flush.1.E = y.E ∧ y.flush.1.tr = y.tr) := by
  unfold Dk.flush
  rw [if_neg (by rw [ho]; decide)]
  by_cases ht : y.tr (wrap64 (y.n + 1)) = true
  · rw [if_pos ht]; exact .inr ⟨rfl, rfl, rfl, rfl⟩
  · rw [if_neg ht]; exact .inl ⟨rfl, ho, rfl, rfl, rfl⟩
theorem apart (nr : Int) (a j : Nat) (h0 : 0 ≤ nr) (h1 : 2 + (nr % 2).toNat * a ≤ j) (h2 : j < 2 + (nr % 2).toNat * a + a) : j < 2 + ((nr + 1) % 2).toNat * a ∨ 2 + ((nr + 1) % 2).toNat * a + a ≤ j := by
  rcases (by omega : nr % 2 = 0 ∨ nr % 2 = 1) with e | e
  · have e2 : (nr + 1) % 2 = 1 := by omega
    rw [e] at h1 h2
    rw [e2]
    left
    show j < 2 + 1 * a
    have h2' : j < 2 + 0 * a + a := h2
    omega
  · have e2 : (nr + 1) % 2 = 0 := by omega
    rw [e] at h1 h2
    rw [e2]
    right
    show 2 + 0 * a + a ≤ j
    have h1' : 2 + 1 * a ≤ j := h1
    omega
theorem area_fits (nr : Int) (n : Nat) (h0 : 0 ≤ nr) (h : n % 64 = 0) : (2 + (nr % 2).toNat * areaOf n + areaOf n) * 64 ≤ n ∨ areaOf n = 0 := by
  unfold areaOf
  rcases (by omega : nr % 2 = 0 ∨ nr % 2 = 1) with e | e <;> rw [e]
  · show (2 + 0 * ((n / 64 - 2) / 2) + (n / 64 - 2) / 2) * 64 ≤ n ∨ _; omega
  · show (2 + 1 * ((n / 64 - 2) / 2) + (n / 64 - 2) / 2) * 64 ≤ n ∨ _; omega
/-- The other area is written: what was held is held. -/
theorem holds_wr {E : List Int} {nr : Int} {rs : List (List Int)} {y y1 : Dk} {n : Nat} (h : Holds E nr rs) (hE : y.E = E) (hn : n ≤ areaOf E.length) (hw : WrOk y y1 (2 + ((nr + 1) % 2).toNat * areaOf E.length) n) {C : List Int} (hm : Mix E y1.E C) (h2 : 128 ≤ E.length) (h64 : E.length % 64 = 0) : Holds C nr rs := by
  have hl : y1.E.length = E.length := by rw [hw.len, hE]
  have key : ∀ j, j < E.length / 64 → (j < 2 + ((nr + 1) % 2).toNat * areaOf E.length ∨ 2 + ((nr + 1) % 2).toNat * areaOf E.length + n ≤ j) → sec C j = sec E j := fun j hj hf => by
    rcases hm.2 j (by rw [hl]; exact hj) with q | q
    · exact q
    · rw [q, hw.far j hf, hE]
  have h0 := h.1
  refine holds_same h (hm.1.trans hl) (key 0 (by omega) (.inl (by omega))) (key 1 (by omega) (.inl (by omega))) (fun j j1 j2 => ?_)
  have ha := apart nr (areaOf E.length) j h0 j1 j2
  have hb := area_fits nr E.length h0 h64
  refine key j ?_ (ha.imp id (fun q => by omega))
  rcases hb with q | q
  · omega
  · rw [q] at j1 j2; omega
/-- The next head is written: what is held is the old, or the new. -/
theorem holds_head {E hd : List Int} {nr : Int} {rs0 rs : List (List Int)} {y y1 : Dk} (h : Holds E nr rs0) (hE : y.E = E) (hw : WrOk y y1 ((nr + 1) % 2).toNat 1) (hs : sec y1.E ((nr + 1) % 2).toNat = hd) (hl : layLen rs ≤ areaOf E.length * 64) (hm : layLen rs ≤ 1000000)
    (ha : (E.drop ((2 + ((nr + 1) % 2).toNat * areaOf E.length) * 64)).take (layLen rs) = layP rs) (hh : HeadAt hd (nr + 1) (layLen rs : Int)) {C : List Int} (hx : Mix E y1.E C) (h2 : 128 ≤ E.length) (h64 : E.length % 64 = 0) :
    (sec C ((nr + 1) % 2).toNat = sec E ((nr + 1) % 2).toNat → Holds C nr rs0) ∧ (sec C ((nr + 1) % 2).toNat = hd → Holds C (nr + 1) rs) := by
  have hle : y1.E.length = E.length := by rw [hw.len, hE]
  have h0 := h.1
  have key : ∀ j, j < E.length / 64 → j ≠ ((nr + 1) % 2).toNat → sec C j = sec E j := fun j hj hf => by
    rcases hx.2 j (by rw [hle]; exact hj) with q | q
    · exact q
    · rw [q, hw.far j (by omega), hE]
  have hlt : ((nr + 1) % 2).toNat < 2 := by omega
  have hCl : C.length = E.length := hx.1.trans hle
  have far : ∀ (m : Int), 0 ≤ m → ∀ j, 2 + (m % 2).toNat * areaOf E.length ≤ j → j < 2 + (m % 2).toNat * areaOf E.length + areaOf E.length → sec C j = sec E j := fun m hm0 j j1 j2 => by
    have hb := area_fits m E.length hm0 h64
    refine key j ?_ (by omega)
    rcases hb with q | q
    · omega
    · rw [q] at j1 j2; omega
  constructor
  · intro he
    have all : ∀ j, j < 2 → sec C j = sec E j := fun j hj => by
      by_cases e : j = ((nr + 1) % 2).toNat
      · rw [e]; exact he
      · exact key j (by omega) e
    exact holds_same h hCl (all 0 (by omega)) (all 1 (by omega)) (far nr h0)
  · intro he
    refine ⟨by omega, by rw [hCl]; exact hl, hm, by rw [hCl, area_same (far (nr + 1) (by omega)) hl]; exact ha, .inr ⟨by omega, by rw [he]; exact hh, ?_⟩⟩
    have e3 : ((nr + 1 + 1) % 2).toNat = (nr % 2).toNat := by omega
    rw [hCl, e3, key _ (by omega) (by omega)]
    obtain ⟨_, q1, q2, _, q4⟩ := h
    rcases q4 with ⟨rfl, rfl, a1, a2⟩ | ⟨a1, a2, a3⟩
    · exact .inl a1
    · exact .inr ⟨nr, (layLen rs0 : Int), a2, by omega, by omega, h0, by omega⟩
theorem mix_E {S E : List Int} : Mix S E E := ⟨rfl, fun _ _ => .inr rfl⟩
/-- Sync, on a disk whose safe and seen bytes are one. -/
theorem sync_spec (x : Lg) (b hd : List Int) (rs0 : List (List Int)) (ho : x.y.off = false) (hf : x.fresh = false) (h64 : x.y.E.length % 64 = 0) (h2 : 128 ≤ x.y.E.length) (hSE : x.y.S = x.y.E) (hH : Holds x.y.E x.nr rs0) (hb : b = layP x.rs) (hl : layLen x.rs ≤ areaOf x.y.E.length * 64) (hm : layLen x.rs ≤ 1000000) (hh : HeadAt hd (x.nr + 1) (layLen x.rs : Int)) (hdl : hd.length = 64) :
    ((x.sync b hd).2 = 0 ∧ ∃ y', (x.sync b hd).1 = ⟨y', x.nr + 1, x.rs, true⟩ ∧ y'.off = false ∧ y'.S = y'.E ∧ y'.E.length = x.y.E.length ∧ y'.tr = x.y.tr ∧ Holds y'.E (x.nr + 1) x.rs) ∨
    ((x.sync b hd).2 = 103 ∧ ∀ C, Mix (x.sync b hd).1.y.S (x.sync b hd).1.y.E C → Holds C x.nr rs0 ∨ Holds C (x.nr + 1) x.rs) := by
  have h0 := hH.1
  have hlen : b.length = layLen x.rs := by rw [hb, length_layP]
  have hsr : x.sync b hd = syncRun x b hd 4 0 := by unfold Lg.sync; rw [if_neg (by rw [ho]; decide), if_neg (by rw [hf]; decide)]
  rw [hsr]
  have hfr : x.from (x.nr + 1) = 2 + ((x.nr + 1) % 2).toNat * areaOf x.y.E.length := rfl
  have hn : (b.length + 63) / 64 ≤ areaOf x.y.E.length := by omega
  have haf := area_fits (x.nr + 1) x.y.E.length (by omega) h64
  obtain ⟨w1, w2⟩ := wrL_spec (b.length + 1) x.y (x.from (x.nr + 1)) b (by omega) ho h64 (by rw [hfr]; rcases haf with q | q; omega; rw [q] at hn ⊢; omega)
  obtain ⟨r1, hr1⟩ : ∃ r1, r1 = wrL (b.length + 1) x.y (x.from (x.nr + 1) : Nat) b := ⟨_, rfl⟩
  have s1 : syncY x b hd 1 = r1 := hr1.symm
  rw [← hr1] at w1 w2
  rw [hfr] at w1
  have mix1 : ∀ C, Mix x.y.E r1.1.E C → Holds C x.nr rs0 := fun C hC => holds_wr hH rfl hn w1 hC h2 h64
  rw [syncRun, s1]
  rcases w2 with ⟨c1, o1, ct⟩ | c1
  · rw [if_neg (fun h => h c1)]
    have s2 : syncY x b hd 2 = r1.1.flush := by show (wrL _ _ _ _).1.flush = _; rw [← hr1]
    rw [syncRun, s2]
    rcases flush_spec r1.1 o1 with ⟨c2, o2, f1, f2, f3⟩ | ⟨c2, f1, f2, f3⟩
    · rw [if_neg (fun h => h c2)]
      obtain ⟨y2, hy2⟩ : ∃ y2, y2 = r1.1.flush.1 := ⟨_, rfl⟩
      have s3 : syncY x b hd 3 = y2.write ((x.nr + 1) % 2) hd := by show (wrL _ _ _ _).1.flush.1.write _ _ = _; rw [← hr1, ← hy2]
      rw [← hy2] at o2 f1 f2 f3
      have hE2l : y2.E.length = x.y.E.length := by rw [f2, w1.len]
      have H2 : Holds y2.E x.nr rs0 := by rw [f2]; exact mix1 _ mix_E
      have hpos : ((x.nr + 1) % 2) = (((x.nr + 1) % 2).toNat : Int) := by omega
      obtain ⟨v1, v2, v3⟩ := wr_one y2 ((x.nr + 1) % 2).toNat hd o2 (by rw [hE2l]; exact h64) (by rw [hE2l]; omega) hdl
      rw [← hpos] at v1 v2 v3
      obtain ⟨r3, hr3⟩ : ∃ r3, r3 = y2.write ((x.nr + 1) % 2) hd := ⟨_, rfl⟩
      rw [← hr3] at v1 v2 v3 s3
      have hct : (y2.E.drop ((2 + ((x.nr + 1) % 2).toNat * areaOf y2.E.length) * 64)).take (layLen x.rs) = layP x.rs := by rw [hE2l, f2, ← hfr, ← hlen, ct, hb]
      have mix3 : ∀ C, Mix y2.E r3.1.E C → (sec C ((x.nr + 1) % 2).toNat = sec y2.E ((x.nr + 1) % 2).toNat → Holds C x.nr rs0) ∧ (sec C ((x.nr + 1) % 2).toNat = hd → Holds C (x.nr + 1) x.rs) := fun C hC => holds_head H2 rfl v1 v2 (by rw [hE2l]; exact hl) hm hct hh hC (by rw [hE2l]; exact h2) (by rw [hE2l]; exact h64)
      have hr3l : r3.1.E.length = x.y.E.length := v1.len.trans hE2l
      have mix3' : ∀ C, Mix y2.E r3.1.E C → Holds C x.nr rs0 ∨ Holds C (x.nr + 1) x.rs := fun C hC => by
        rcases hC.2 ((x.nr + 1) % 2).toNat (by rw [hr3l]; omega) with q | q
        · exact .inl ((mix3 C hC).1 q)
        · exact .inr ((mix3 C hC).2 (q.trans v2))
      rw [syncRun, s3]
      rcases v3 with ⟨c3, o3⟩ | c3
      · rw [if_neg (fun h => h c3)]
        have s4 : syncY x b hd 4 = r3.1.flush := by show ((wrL _ _ _ _).1.flush.1.write _ _).1.flush = _; rw [← hr1, ← hy2, ← hr3]
        rw [syncRun, s4]
        rcases flush_spec r3.1 o3 with ⟨c4, o4, g1, g2, g3⟩ | ⟨c4, g1, g2, g3⟩
        · rw [if_neg (fun h => h c4), syncRun, s4]
          refine .inl ⟨rfl, _, rfl, o4, by rw [g1, g2], by rw [g2, hr3l], by rw [g3, v1.tr, f3, w1.tr], ?_⟩
          rw [g2]
          exact (mix3 _ mix_E).2 v2
        · rw [if_pos (by rw [c4]; decide)]
          refine .inr ⟨c4, fun C hC => mix3' C ?_⟩
          have hC' : Mix r3.1.flush.1.S r3.1.flush.1.E C := hC
          rw [g1, g2, v1.S, f1, ← f2] at hC'
          exact hC'
      · rw [if_pos (by rw [c3]; decide)]
        refine .inr ⟨c3, fun C hC => mix3' C ?_⟩
        have hC' : Mix r3.1.S r3.1.E C := hC
        rw [v1.S, f1, ← f2] at hC'
        exact hC'
    · rw [if_pos (by rw [c2]; decide)]
      refine .inr ⟨c2, fun C hC => .inl (mix1 C ?_)⟩
      have hC' : Mix r1.1.flush.1.S r1.1.flush.1.E C := hC
      rw [f1, f2, w1.S, hSE] at hC'
      exact hC'
  · rw [if_pos (by rw [c1]; decide)]
    refine .inr ⟨c1, fun C hC => .inl (mix1 C ?_)⟩
    have hC' : Mix r1.1.S r1.1.E C := hC
    rw [w1.S, hSE] at hC'
    exact hC'

end Go.Proofs.Ytpkhpfgojhojaaa.PLg

namespace Go.Proofs.Ytpkhpfgojhojaaa.PLg
open Go.RowKit Go.Proofs.YtpkhpfgojhojaaaW.PrintWords Go.Proofs.YtpkhpfgojhojaaaW.PrintLast Go.Proofs.YtpkhpfgojhojaaaW.PrintMore
attribute [local go_sem] max2_int min2_int max_two min_two max_three min_three max_four min_four
set_option linter.unusedVariables false
set_option linter.unusedSimpArgs false
-- FUNCTION: gangway/gangwaylaw12.Disk
-- IMPORT: Derived.Test.@N@WOwn
-- IMPORT: Derived.Test.@N@DLsafe
theorem lg_num (a : Int) (w : World) : Calls Try.prog 35 #[.int .i64 a] w fun e w' => e = .returned (.int .i64 a) ∧ w = w' := by
  go_enter Try.func35, Try.ntmps35
  go_wp2
  go_ret
  exact ⟨rfl, rfl⟩
set_option maxHeartbeats 2000000 in
set_option maxRecDepth 100000 in
theorem lg_Disk (m : Nat) (h1 : 1 ≤ m) (h2 : m ≤ 16384) (T : Option Addr) (ct mt : Nat) (ts : List S45) (w : World) (hT : Kd.C k45 w T mt ts) (hw : ∀ t ∈ ts, (Lit.int .i64 t.f0).wf = true) (hg : ∀ t ∈ ts, 1 ≤ t.f0) :
    Calls Try.prog 33 #[.int .i64 m, .slice T mt ct] w fun e w' => ∃ d, e = .returned (.pointer (some ⟨d, 0, none⟩)) ∧ DkAt w' w.heap.size (fun _ => True) d (Dk.new (List.replicate (m * 64) 0) ts) ∧ Below w.heap.size w w' := by
  have e1 : wrap64 ((m : Int) * 64) = (m : Int) * 64 := w64 _ (by omega)
  obtain ⟨z, hz, hmk, hR0⟩ := mk_zero (m * 64) ((m : Int) * 64) (by omega) (by omega)
  have HZ := Aside0.mk hz
  have HB0 := Aside0.mk (below_alloc (Below.refl w.heap.size w) (.cells (nums .u8 z).toArray 5))
  have HR := Aside0.mk (R_C (hR0 w)).2
  have HT := Aside0.mk hT
  have HW := Aside0.mk hw
  have HG := Aside0.mk hg
  clear hz hR0 hT hw hg
  go_enter Try.func33, Try.ntmps33
  go_wp2_with fail
  refine (dk_New_ok (some ⟨w.heap.size, 0, none⟩) (m * 64) (m * 64) z T ct mt ts _ HR.out (Nat.le_refl _) (Kd.C_below HT.out HB0.out) HW.out ⟨by omega, by omega, by omega⟩ HG.out).mono ?_
  rintro e' w1 ⟨d, rfl, hd, hb⟩
  have hd2 := hd.lower (base' := w.heap.size) HB0.out.size
  rw [HZ.out] at hd2
  have HD := Aside0.mk hd2
  have HB := Aside0.mk (below_step HB0.out hb)
  clear hd hd2 hb
  go_wp2_with (first | (go_at_call 35; refine (lg_num _ _).mono ?_; rintro e' w' ⟨rfl, rfl⟩))
  go_ret
  exact ⟨d, rfl, HD.out, HB.out⟩
end Go.Proofs.Ytpkhpfgojhojaaa.PLg

namespace Go.Proofs.Ytpkhpfgojhojaaa.PLg
open Go.RowKit Go.Proofs.YtpkhpfgojhojaaaW.PrintWords Go.Proofs.YtpkhpfgojhojaaaW.PrintLast Go.Proofs.YtpkhpfgojhojaaaW.PrintMore
attribute [local go_sem] max2_int min2_int max_two min_two max_three min_three max_four min_four
set_option linter.unusedVariables false
set_option linter.unusedSimpArgs false
-- IMPORT: Derived.Test.@N@WOwn
-- IMPORT: Derived.Test.@N@DLsafe
/-! ### Without troubles nothing is told to be off. -/
theorem write_quiet (y : Dk) (i : Int) (b : List Int) (ho : y.off = false) (hq : ∀ n, y.tr n = false) : (y.write i b).2 ≠ 103 ∧ (y.write i b).1.off = false ∧ (y.write i b).1.tr = y.tr := by
  unfold Dk.write
  split
  · rw [if_neg (by rw [ho]; decide)]
    refine ⟨?_, hq _, rfl⟩
    show (if y.tr (wrap64 (y.n + 1)) = true then (103 : Int) else 0) ≠ 103
    rw [if_neg (by rw [hq]; decide)]
    decide
  · exact ⟨by show (100 : Int) ≠ 103; decide, ho, rfl⟩
theorem flush_quiet (y : Dk) (ho : y.off = false) (hq : ∀ n, y.tr n = false) : y.flush.2 ≠ 103 ∧ y.flush.1.off = false ∧ y.flush.1.tr = y.tr := by
  unfold Dk.flush
  rw [if_neg (by rw [ho]; decide), if_neg (by rw [hq]; decide)]
  exact ⟨by show (0 : Int) ≠ 103; decide, ho, rfl⟩
theorem wrL_quiet : ∀ (k : Nat) (y : Dk) (i : Int) (b : List Int), y.off = false → (∀ n, y.tr n = false) → (wrL k y i b).2 ≠ 103 ∧ (wrL k y i b).1.off = false ∧ (wrL k y i b).1.tr = y.tr
  | 0, y, i, b, ho, hq => ⟨by show (0 : Int) ≠ 103; decide, ho, rfl⟩
  | k + 1, y, i, b, ho, hq => by
    rw [wrL]
    split
    · exact ⟨by show (0 : Int) ≠ 103; decide, ho, rfl⟩
    · have h := write_quiet y i (padTo (b.take 64)) ho hq
      split
      · exact h
      · have h2 := wrL_quiet k (y.write i (padTo (b.take 64))).1 (i + 1) (b.drop 64) h.2.1 (by rw [h.2.2]; exact hq)
        exact ⟨h2.1, h2.2.1, h2.2.2.trans h.2.2⟩
theorem sync_quiet (x : Lg) (b hd : List Int) (ho : x.y.off = false) (hq : ∀ n, x.y.tr n = false) : (x.sync b hd).2 ≠ 103 := by
  unfold Lg.sync
  rw [if_neg (by rw [ho]; decide)]
  split
  · show (0 : Int) ≠ 103; decide
  · have h1 := wrL_quiet (b.length + 1) x.y (x.from (x.nr + 1) : Nat) b ho hq
    obtain ⟨r1, hr1⟩ : ∃ r1, r1 = wrL (b.length + 1) x.y (x.from (x.nr + 1) : Nat) b := ⟨_, rfl⟩
    have s1 : syncY x b hd 1 = r1 := hr1.symm
    have s2 : syncY x b hd 2 = r1.1.flush := by show (wrL _ _ _ _).1.flush = _; rw [← hr1]
    have s3 : syncY x b hd 3 = r1.1.flush.1.write ((x.nr + 1) % 2) hd := by show (wrL _ _ _ _).1.flush.1.write _ _ = _; rw [← hr1]
    have s4 : syncY x b hd 4 = (r1.1.flush.1.write ((x.nr + 1) % 2) hd).1.flush := by show ((wrL _ _ _ _).1.flush.1.write _ _).1.flush = _; rw [← hr1]
    rw [← hr1] at h1
    have h2 := flush_quiet r1.1 h1.2.1 (by rw [h1.2.2]; exact hq)
    have h3 := write_quiet r1.1.flush.1 ((x.nr + 1) % 2) hd h2.2.1 (by rw [h2.2.2, h1.2.2]; exact hq)
    have h4 := flush_quiet (r1.1.flush.1.write ((x.nr + 1) % 2) hd).1 h3.2.1 (by rw [h3.2.2, h2.2.2, h1.2.2]; exact hq)
    rw [syncRun, s1]
    split
    · exact h1.1
    · rw [syncRun, s2]
      split
      · exact h2.1
      · rw [syncRun, s3]
        split
        · exact h3.1
        · rw [syncRun, s4]
          split
          · exact h4.1
          · rw [syncRun]; show (0 : Int) ≠ 103; decide
/-- What a crash leaves is a mix. -/
theorem crash_mix (y : Dk) (h : y.Fits) (ps : List Int) : Mix y.S y.E (y.crash ps) := by
  obtain ⟨h1, h2, h3, h4⟩ := h
  unfold Dk.crash
  refine ⟨by rw [length_crashL _ _ _ _ _ _ (by omega) (by omega)]; exact h1, fun j hj => ?_⟩
  exact crash_secs y.S y.E (y.E.length / 64) 0 y.S ps h1 h1 (by omega) (fun j hj => absurd hj (Nat.not_lt_zero _)) (fun j _ => rfl) j (by omega)
/-- Where the safe bytes are the seen ones a crash leaves these. -/
theorem mix_same {E C : List Int} (h : Mix E E C) (h64 : E.length % 64 = 0) : C = E :=
  sec_ext (n := E.length / 64) (by rw [h.1]; omega) (by omega) (fun j hj => (h.2 j hj).elim id id)

end Go.Proofs.Ytpkhpfgojhojaaa.PLg

namespace Go.Proofs.Ytpkhpfgojhojaaa.PLg
open Go.RowKit Go.Proofs.YtpkhpfgojhojaaaW.PrintWords Go.Proofs.YtpkhpfgojhojaaaW.PrintLast Go.Proofs.YtpkhpfgojhojaaaW.PrintMore
attribute [local go_sem] max2_int min2_int max_two min_two max_three min_three max_four min_four   -- for this text's walks alone
set_option linter.unusedVariables false
set_option linter.unusedSimpArgs false

/-! ### gangwayref0_EqCells: function 36 -/
def gangwayref0_EqCells.l0 : Nat → List (List Int) → List (List Int) → Int → Option (Bool)
  | 0, _, _, _ => none
  | k + 1, x0, x1, x5 => if x5 < (x0.length : Int) then (if 0 ≤ x5 then (if x5 < (x1.length : Int) then ((gangwayref0_EqBytes.f k (rd_L2 x0 x5) (rd_L2 x1 x5)).bind fun t147 => (if t147 = true then (gangwayref0_EqCells.l0 k x0 x1 (wrap64 (x5 + 1))) else (some false))) else (none)) else (none)) else (some true)
def gangwayref0_EqCells.f (k : Nat) (l0 : List (List Int)) (l1 : List (List Int)) : Option (Bool) := if (l0.length : Int) = (l1.length : Int) then (gangwayref0_EqCells.l0 k l0 l1 0) else (some false)
theorem gangwayref0_EqCells.mono_l : ∀ k, (∀ y0 y1 y2, LeO (gangwayref0_EqCells.l0 k y0 y1 y2) (gangwayref0_EqCells.l0 (k + 1) y0 y1 y2))
  | 0 => fun _ _ _ r h => by simp [gangwayref0_EqCells.l0] at h
  | k + 1 => by
    have ih0 := gangwayref0_EqCells.mono_l k
    · intro y0 y1 y2
      unfold gangwayref0_EqCells.l0
      repeat' first
      | (with_reducible exact ih0 _ _ _)
      | (with_reducible exact gangwayref0_EqBytes.mono _ _ _)
      | (with_reducible exact LeO.refl _)
      | (with_reducible exact LeO.none _)
      | (with_reducible refine LeO.ite ?_ ?_)
      | (with_reducible refine LeO.bind ?_ (fun _ => ?_))
      | exact ih0 _ _ _
      | exact gangwayref0_EqBytes.mono _ _ _
      | exact LeO.none _
      | refine LeO.ite ?_ ?_
      | refine LeO.bind ?_ (fun _ => ?_)
theorem gangwayref0_EqCells.mono : ∀ a0 a1 k, LeO (gangwayref0_EqCells.f k a0 a1) (gangwayref0_EqCells.f (k + 1) a0 a1) := by
  intro a0 a1 k
  have ih0 := gangwayref0_EqCells.mono_l k
  unfold gangwayref0_EqCells.f
  repeat' first
      | (with_reducible exact ih0 _ _ _)
      | (with_reducible exact gangwayref0_EqBytes.mono _ _ _)
      | (with_reducible exact LeO.refl _)
      | (with_reducible exact LeO.none _)
      | (with_reducible refine LeO.ite ?_ ?_)
      | (with_reducible refine LeO.bind ?_ (fun _ => ?_))
      | exact ih0 _ _ _
      | exact gangwayref0_EqBytes.mono _ _ _
      | exact LeO.none _
      | refine LeO.ite ?_ ?_
      | refine LeO.bind ?_ (fun _ => ?_)
set_option maxHeartbeats 8000000 in
set_option maxRecDepth 100000 in
theorem gangwayref0_EqCells.calls (k : Nat) (A0 : Option Addr) (c0 : Nat) (l0 : List (List Int)) (A1 : Option Addr) (c1 : Nat) (l1 : List (List Int)) (r : Bool) (w : World) (hr0 : Kd.C (Kd.slice 5 (Kd.int .u8)) w A0 l0.length l0) (hc0 : l0.length ≤ c0) (hr1 : Kd.C (Kd.slice 5 (Kd.int .u8)) w A1 l1.length l1) (hc1 : l1.length ≤ c1) (h : gangwayref0_EqCells.f k l0 l1 = some r) :
    Calls Try.prog 36 #[.slice A0 l0.length c0, .slice A1 l1.length c1] w fun e w' => e = .returned (.bool r) ∧ Drawn0 w w' := by
  have HR0 := Aside0.mk hr0
  have HC0 := Aside0.mk hc0
  clear hr0 hc0
  have HR1 := Aside0.mk hr1
  have HC1 := Aside0.mk hc1
  clear hr1 hc1
  have H : (if (l0.length : Int) = (l1.length : Int) then (gangwayref0_EqCells.l0 k l0 l1 0) else (some false)) = some r := h
  clear h
  by_cases c3 : (l0.length : Int) = (l1.length : Int)
  · rw [if_pos c3] at H
    have c3b0 : ((l0.length : Int) == (l1.length : Int)) = true := beq_iff_eq.mpr c3
    have c3b1 : ((l0.length : Int) != (l1.length : Int)) = false := bne_eq_false_iff_eq.mpr c3
    have c3b2 : (l0.length == l1.length) = true := by first | simpa using c3 | (simp at c3 ⊢; omega)
    clear c3
    have H' := Aside0.mk H
    clear H
    go_enter Try.func36, Try.ntmps36
    go_wp2
    repeat (go_quiet (fail); try go_wp2)
    go_loopg [5] k (fun kq v5 w' => ∃ (x5_1 : Int), v5 = .int .i64 x5_1 ∧ Aside0 (gangwayref0_EqCells.l0 kq l0 l1 x5_1 = some r) ∧ Aside0 (kq ≤ k) ∧ Drawn0 w w')
    case atStart => exact ⟨(0), (by first | rfl | (simp; done) | (simp [*]; done)), H', ⟨Nat.le_refl _⟩, by repeat (first | exact Drawn0.refl _ | apply Drawn0.step)⟩
    case round =>
      clear H'
      try clear c1
      try clear p2
      try clear c3
      try clear c3b0
      try clear c3b1
      try clear c3b2
      obtain ⟨x5_1, rfl, HA, HK1, ⟨m1, rfl⟩⟩ := hrel
      cases gk with
      | zero => exact absurd HA.out (by simp [gangwayref0_EqCells.l0])
      | succ k1 =>
        have H := HA.out
        clear HA
        simp only [gangwayref0_EqCells.l0] at H
        by_cases c4 : x5_1 < (l0.length : Int)
        · rw [if_pos c4] at H
          have c4b0 : decide (x5_1 < (l0.length : Int)) = true := decide_eq_true c4
          clear c4
          by_cases c5 : 0 ≤ x5_1
          · rw [if_pos c5] at H
            have c5b0 : decide (0 ≤ x5_1) = true := decide_eq_true c5
            clear c5
            by_cases c6 : x5_1 < (l1.length : Int)
            · rw [if_pos c6] at H
              have c6b0 : decide (x5_1 < (l1.length : Int)) = true := decide_eq_true c6
              clear c6
              replace H := Option.bind_eq_some_iff.mp H
              obtain ⟨t147, A70, H⟩ := H
              replace H : (if t147 = true then (gangwayref0_EqCells.l0 k1 l0 l1 (wrap64 (x5_1 + 1))) else (some false)) = some r := H
              have A7 := Aside0.mk A70
              clear A70
              by_cases c8 : t147 = true
              · subst c8
                have H1 : (gangwayref0_EqCells.l0 k1 l0 l1 (wrap64 (x5_1 + 1))) = some r := by rw [if_pos rfl] at H; exact H
                clear H
                have H := H1
                clear H1
                have H' := Aside0.mk H
                clear H
                have p145 : 0 ≤ (x5_1 : Int) := of_decide_eq_true (by first | (with_reducible assumption) | assumption)
                have q145 : x5_1 < (l0.length : Int) := of_decide_eq_true (by first | (with_reducible assumption) | assumption)
                obtain ⟨ad145, A145_0, c145_0, e145, hx145_0, hl145_0, hi145_0⟩ := at_L2 HR0.out x5_1 p145 q145
                cases e145
                have HR145_0 := Aside0.mk hi145_0
                have HC145_0 := Aside0.mk hl145_0
                clear hi145_0 hl145_0
                replace p145 := eq_true p145
                replace q145 := eq_true q145
                have p146 : 0 ≤ (x5_1 : Int) := of_decide_eq_true (by first | (with_reducible assumption) | assumption)
                have q146 : x5_1 < (l1.length : Int) := of_decide_eq_true (by first | (with_reducible assumption) | assumption)
                obtain ⟨ad146, A146_0, c146_0, e146, hx146_0, hl146_0, hi146_0⟩ := at_L2 HR1.out x5_1 p146 q146
                cases e146
                have HR146_0 := Aside0.mk hi146_0
                have HC146_0 := Aside0.mk hl146_0
                clear hi146_0 hl146_0
                replace p146 := eq_true p146
                replace q146 := eq_true q146
                go_wp2_with (first | (go_at_call 19; (with_reducible refine (gangwayref0_EqBytes.calls k1 _ _ (rd_L2 l0 x5_1) _ _ (rd_L2 l1 x5_1) true _ ?side1 ?side2 ?side3 ?side4 A7.out).mono ?_); (case side1 => repeat (first | exact HR145_0.out | (with_reducible refine Kd.C_alloc ?_ _) | (with_reducible refine Kd.C_drewN ?_ _) | (with_reducible refine Kd.C_drew ?_))); (case side2 => exact HC145_0.out); (case side3 => repeat (first | exact HR146_0.out | (with_reducible refine Kd.C_alloc ?_ _) | (with_reducible refine Kd.C_drewN ?_ _) | (with_reducible refine Kd.C_drew ?_))); (case side4 => exact HC146_0.out); rintro e w' ⟨rfl, ⟨nd, rfl⟩⟩; (try first | exact ⟨rfl, _, World.drewN_drewN _ _ _⟩ | exact ⟨rfl, _, Eq.trans (World.drewN_drewN _ _ _) (congrArg (World.drewN _) (Nat.add_assoc _ _ _))⟩)))
                repeat (go_quiet (first | (go_at_call 19; (with_reducible refine (gangwayref0_EqBytes.calls k1 _ _ (rd_L2 l0 x5_1) _ _ (rd_L2 l1 x5_1) true _ ?side1 ?side2 ?side3 ?side4 A7.out).mono ?_); (case side1 => repeat (first | exact HR145_0.out | (with_reducible refine Kd.C_alloc ?_ _) | (with_reducible refine Kd.C_drewN ?_ _) | (with_reducible refine Kd.C_drew ?_))); (case side2 => exact HC145_0.out); (case side3 => repeat (first | exact HR146_0.out | (with_reducible refine Kd.C_alloc ?_ _) | (with_reducible refine Kd.C_drewN ?_ _) | (with_reducible refine Kd.C_drew ?_))); (case side4 => exact HC146_0.out); rintro e w' ⟨rfl, ⟨nd, rfl⟩⟩; (try first | exact ⟨rfl, _, World.drewN_drewN _ _ _⟩ | exact ⟨rfl, _, Eq.trans (World.drewN_drewN _ _ _) (congrArg (World.drewN _) (Nat.add_assoc _ _ _))⟩))); try go_wp2_with (first | (go_at_call 19; (with_reducible refine (gangwayref0_EqBytes.calls k1 _ _ (rd_L2 l0 x5_1) _ _ (rd_L2 l1 x5_1) true _ ?side1 ?side2 ?side3 ?side4 A7.out).mono ?_); (case side1 => repeat (first | exact HR145_0.out | (with_reducible refine Kd.C_alloc ?_ _) | (with_reducible refine Kd.C_drewN ?_ _) | (with_reducible refine Kd.C_drew ?_))); (case side2 => exact HC145_0.out); (case side3 => repeat (first | exact HR146_0.out | (with_reducible refine Kd.C_alloc ?_ _) | (with_reducible refine Kd.C_drewN ?_ _) | (with_reducible refine Kd.C_drew ?_))); (case side4 => exact HC146_0.out); rintro e w' ⟨rfl, ⟨nd, rfl⟩⟩; (try first | exact ⟨rfl, _, World.drewN_drewN _ _ _⟩ | exact ⟨rfl, _, Eq.trans (World.drewN_drewN _ _ _) (congrArg (World.drewN _) (Nat.add_assoc _ _ _))⟩))))
                go_roundg k1
                case measure => have := HK1.out; omega
                case rel => exact ⟨(wrap64 (x5_1 + 1)), (by first | rfl | (simp; done) | (simp [*]; done)), H', ⟨by have := HK1.out; omega⟩, by repeat (first | exact Drawn0.refl _ | apply Drawn0.step)⟩
              · replace c8 := Bool.eq_false_iff.mpr c8
                subst c8
                have H1 : (some false) = some r := by rw [if_neg (show ¬ (false = true) by decide)] at H; exact H
                clear H
                have H := H1
                clear H1
                obtain rfl := Option.some.inj H
                have p145 : 0 ≤ (x5_1 : Int) := of_decide_eq_true (by first | (with_reducible assumption) | assumption)
                have q145 : x5_1 < (l0.length : Int) := of_decide_eq_true (by first | (with_reducible assumption) | assumption)
                obtain ⟨ad145, A145_0, c145_0, e145, hx145_0, hl145_0, hi145_0⟩ := at_L2 HR0.out x5_1 p145 q145
                cases e145
                have HR145_0 := Aside0.mk hi145_0
                have HC145_0 := Aside0.mk hl145_0
                clear hi145_0 hl145_0
                replace p145 := eq_true p145
                replace q145 := eq_true q145
                have p146 : 0 ≤ (x5_1 : Int) := of_decide_eq_true (by first | (with_reducible assumption) | assumption)
                have q146 : x5_1 < (l1.length : Int) := of_decide_eq_true (by first | (with_reducible assumption) | assumption)
                obtain ⟨ad146, A146_0, c146_0, e146, hx146_0, hl146_0, hi146_0⟩ := at_L2 HR1.out x5_1 p146 q146
                cases e146
                have HR146_0 := Aside0.mk hi146_0
                have HC146_0 := Aside0.mk hl146_0
                clear hi146_0 hl146_0
                replace p146 := eq_true p146
                replace q146 := eq_true q146
                go_wp2_with (first | (go_at_call 19; (with_reducible refine (gangwayref0_EqBytes.calls k1 _ _ (rd_L2 l0 x5_1) _ _ (rd_L2 l1 x5_1) false _ ?side1 ?side2 ?side3 ?side4 A7.out).mono ?_); (case side1 => repeat (first | exact HR145_0.out | (with_reducible refine Kd.C_alloc ?_ _) | (with_reducible refine Kd.C_drewN ?_ _) | (with_reducible refine Kd.C_drew ?_))); (case side2 => exact HC145_0.out); (case side3 => repeat (first | exact HR146_0.out | (with_reducible refine Kd.C_alloc ?_ _) | (with_reducible refine Kd.C_drewN ?_ _) | (with_reducible refine Kd.C_drew ?_))); (case side4 => exact HC146_0.out); rintro e w' ⟨rfl, ⟨nd, rfl⟩⟩; (try first | exact ⟨rfl, _, World.drewN_drewN _ _ _⟩ | exact ⟨rfl, _, Eq.trans (World.drewN_drewN _ _ _) (congrArg (World.drewN _) (Nat.add_assoc _ _ _))⟩)))
                repeat (go_quiet (first | (go_at_call 19; (with_reducible refine (gangwayref0_EqBytes.calls k1 _ _ (rd_L2 l0 x5_1) _ _ (rd_L2 l1 x5_1) false _ ?side1 ?side2 ?side3 ?side4 A7.out).mono ?_); (case side1 => repeat (first | exact HR145_0.out | (with_reducible refine Kd.C_alloc ?_ _) | (with_reducible refine Kd.C_drewN ?_ _) | (with_reducible refine Kd.C_drew ?_))); (case side2 => exact HC145_0.out); (case side3 => repeat (first | exact HR146_0.out | (with_reducible refine Kd.C_alloc ?_ _) | (with_reducible refine Kd.C_drewN ?_ _) | (with_reducible refine Kd.C_drew ?_))); (case side4 => exact HC146_0.out); rintro e w' ⟨rfl, ⟨nd, rfl⟩⟩; (try first | exact ⟨rfl, _, World.drewN_drewN _ _ _⟩ | exact ⟨rfl, _, Eq.trans (World.drewN_drewN _ _ _) (congrArg (World.drewN _) (Nat.add_assoc _ _ _))⟩))); try go_wp2_with (first | (go_at_call 19; (with_reducible refine (gangwayref0_EqBytes.calls k1 _ _ (rd_L2 l0 x5_1) _ _ (rd_L2 l1 x5_1) false _ ?side1 ?side2 ?side3 ?side4 A7.out).mono ?_); (case side1 => repeat (first | exact HR145_0.out | (with_reducible refine Kd.C_alloc ?_ _) | (with_reducible refine Kd.C_drewN ?_ _) | (with_reducible refine Kd.C_drew ?_))); (case side2 => exact HC145_0.out); (case side3 => repeat (first | exact HR146_0.out | (with_reducible refine Kd.C_alloc ?_ _) | (with_reducible refine Kd.C_drewN ?_ _) | (with_reducible refine Kd.C_drew ?_))); (case side4 => exact HC146_0.out); rintro e w' ⟨rfl, ⟨nd, rfl⟩⟩; (try first | exact ⟨rfl, _, World.drewN_drewN _ _ _⟩ | exact ⟨rfl, _, Eq.trans (World.drewN_drewN _ _ _) (congrArg (World.drewN _) (Nat.add_assoc _ _ _))⟩))))
                go_ret
                exact ⟨by first | rfl | (simp; done) | (simp [*]; done), by repeat (first | exact Drawn0.refl _ | apply Drawn0.step)⟩
            · rw [if_neg c6] at H
              exact absurd H (by simp)
          · rw [if_neg c5] at H
            exact absurd H (by simp)
        · rw [if_neg c4] at H
          have c4b0 : decide (x5_1 < (l0.length : Int)) = false := decide_eq_false c4
          clear c4
          obtain rfl := Option.some.inj H
          go_wp2
          repeat (go_quiet (fail); try go_wp2)
          go_ret
          exact ⟨by first | rfl | (simp; done) | (simp [*]; done), by repeat (first | exact Drawn0.refl _ | apply Drawn0.step)⟩
  · rw [if_neg c3] at H
    have c3b0 : ((l0.length : Int) == (l1.length : Int)) = false := beq_eq_false_iff_ne.mpr c3
    have c3b1 : ((l0.length : Int) != (l1.length : Int)) = true := bne_iff_ne.mpr c3
    have c3b2 : (l0.length == l1.length) = false := by first | simpa using c3 | (simp at c3 ⊢; omega)
    obtain rfl := Option.some.inj H
    go_enter Try.func36, Try.ntmps36
    go_wp2
    repeat (go_quiet (fail); try go_wp2)
    go_ret
    exact ⟨by first | rfl | (simp; done) | (simp [*]; done), by repeat (first | exact Drawn0.refl _ | apply Drawn0.step)⟩

end Go.Proofs.Ytpkhpfgojhojaaa.PLg

namespace Go.Proofs.Ytpkhpfgojhojaaa.PLg
open Go.RowKit Go.Proofs.YtpkhpfgojhojaaaW.PrintWords Go.Proofs.YtpkhpfgojhojaaaW.PrintLast Go.Proofs.YtpkhpfgojhojaaaW.PrintMore
attribute [local go_sem] max2_int min2_int max_two min_two max_three min_three max_four min_four
set_option linter.unusedVariables false
set_option linter.unusedSimpArgs false
-- FUNCTION: gangway/gangwaylaw12.wakes
-- IMPORT: Derived.Test.@N@WOwn
-- IMPORT: Derived.Test.@N@DLquiet
-- IMPORT: Derived.Test.@N@DLdisk
-- IMPORT: Derived.Lib.SlBytesConst
theorem holds_64 : Holds (List.replicate (64 * 64) 0) 0 [] := holds_zero 64 (by decide)
theorem C_marked (w : World) (q : Int) : (Kd.int .u8).C (w.alloc (.cells #[.int .u8 q] 5 (1, 2))) (some ⟨w.heap.size, 0, none⟩) 1 [q] := by
  refine ⟨rfl, by decide, fun _ => ⟨_, rfl, fun j p hj => ?_⟩⟩
  obtain rfl : j = 0 := by
    have := (List.getElem?_eq_some_iff.1 hj).1
    simp at this
    omega
  obtain rfl : q = p := by simpa using hj
  refine ⟨[.int .u8 q], rfl, rfl, fun i u hu => ?_⟩
  have hi : i = 0 := by
    have := (List.getElem?_eq_some_iff.1 hu).1
    simp at this
    omega
  subst hi
  obtain rfl : Value.int .u8 q = u := by simpa using hu
  show (w.alloc _).cell? ⟨w.heap.size, 0 + (0 * 1 + 0), none⟩ = _
  have hb := blk_new w (.cells #[.int .u8 q] 5 (1, 2))
  unfold World.cell?
  simp only [hb]
  rfl
theorem C_rows1 (w : World) (q : Int) : (Kd.slice 5 (Kd.int .u8)).C ((w.alloc (.cells #[.int .u8 q] 5 (1, 2))).alloc (.cells #[.slice (some ⟨w.heap.size, 0, none⟩) 1 1] 30)) (some ⟨w.heap.size + 1, 0, none⟩) 1 [[q]] := by
  refine ⟨rfl, by decide, fun _ => ⟨_, rfl, fun j p hj => ?_⟩⟩
  obtain rfl : j = 0 := by
    have := (List.getElem?_eq_some_iff.1 hj).1
    simp at this
    omega
  obtain rfl : [q] = p := by simpa using hj
  refine ⟨[.slice (some ⟨w.heap.size, 0, none⟩) 1 1], rfl, ⟨_, _, rfl, Nat.le_refl _, Kd.C_alloc (C_marked w q) _⟩, fun i u hu => ?_⟩
  have hi : i = 0 := by
    have := (List.getElem?_eq_some_iff.1 hu).1
    simp at this
    omega
  subst hi
  obtain rfl : Value.slice (some ⟨w.heap.size, 0, none⟩) 1 1 = u := by simpa using hu
  have hb := blk_new (w.alloc (.cells #[.int .u8 q] 5 (1, 2))) (.cells #[.slice (some ⟨w.heap.size, 0, none⟩) 1 1] 30)
  rw [World.size_alloc] at hb
  exact (blk_cell hb 0).trans rfl
set_option maxHeartbeats 8000000 in
set_option maxRecDepth 100000 in
theorem lg_wakes (w : World) : Calls Try.prog 41 #[] w fun e w' => e = .returned (.bool true) ∧ Below w.heap.size w w' := by
  obtain ⟨E0, hE0⟩ : ∃ E0, E0 = List.replicate (64 * 64) (0 : Int) := ⟨_, rfl⟩
  have hl : E0.length = 4096 := by rw [hE0, List.length_replicate]
  have HOP : Aside0 (OpensTo E0 0 []) := ⟨by rw [hE0]; exact holds_opens holds_64⟩
  have HE0 := Aside0.mk hE0
  have HLE := Aside0.mk hl
  have hls := Try.underlying94
  clear hE0 hl
  have hcv := fun w : World => Lib.run_convert_bytes_const (P := Try.prog) w 30 5 #[.int .u8 120] 1 1 Try.underlying30 Try.underlying5
  go_enter Try.func41, Try.ntmps41
  go_wp2_with fail
  refine (lg_Disk 64 (by decide) (by decide) none 0 0 [] _ (Kd.C_nil _ _) (fun _ h => by cases h) (fun _ h => by cases h)).mono ?_
  rintro e' w1 ⟨d, rfl, hd, hb⟩
  rw [← HE0.out] at hd
  have HD := Aside0.mk hd
  have HB1 := Aside0.mk hb
  clear hd hb
  go_wp2_with fail
  refine (lg_Open d _ w.heap.size _ (Dk.new E0 []) 0 [] (layP []) HD.out HB1.out.size rfl (by show 128 ≤ E0.length; rw [HLE.out]; decide) HOP.out (lays [] (by decide))).mono ?_
  rintro e' w2 ⟨g, N, v, rfl, hlg, hN, hN2, hS, hb⟩
  obtain ⟨A, c, rfl⟩ := Kd.S_slice hS
  have HL2 := Aside0.mk hlg
  have HB2 := Aside0.mk (below_step HB1.out hb)
  clear hlg hN hN2 hS hb
  go_wp2_with (first | (go_at_call 35; refine (lg_num _ _).mono ?_; rintro e' w' ⟨rfl, rfl⟩))
  have HC3 := Aside0.mk (C_marked w2 120)
  have HL3 := Aside0.mk (HL2.out.below (below_alloc (Below.refl w2.heap.size w2) (.cells #[.int .u8 120] 5 (1, 2))))
  have HB3 := Aside0.mk (below_alloc HB2.out (.cells #[.int .u8 120] 5 (1, 2)))
  have hbc : (⟨Dk.new E0 [], 0, [], true⟩ : Lg).become ([] ++ [[120]]) = (⟨Dk.new E0 [], 0, [[120]], false⟩, 0) := by
    unfold Lg.become
    rw [if_neg (by show ¬ false = true; decide), if_neg (by show ¬ layLen [[120]] > areaOf E0.length * 64; rw [HLE.out]; decide)]
    rfl
  have HBC := Aside0.mk hbc
  clear hbc
  refine (lg_Append g _ 1 [120] _ w.heap.size _ d ⟨Dk.new E0 [], 0, [], true⟩ (layP [[120]]) HL3.out HB3.out.size HC3.out (Nat.le_refl _) (lays [[120]] (by decide)) (Nat.zero_le _) (by show 1 ≤ 1000000; decide)).mono ?_
  rintro e' w4 ⟨rfl, hlg, hk, hb⟩
  rw [HBC.out] at hlg
  rw [HBC.out]
  have HL4 := Aside0.mk hlg
  have HB4 := Aside0.mk (HB3.out.trans hb)
  clear hlg hk hb
  go_wp2_with (first | (go_at_call 35; refine (lg_num _ _).mono ?_; rintro e' w' ⟨rfl, rfl⟩))
  refine (lg_Records g _ _ _ d ⟨Dk.new E0 [], 0, [[120]], false⟩ (layP [[120]]) HL4.out (lays [[120]] (by decide))).mono ?_
  rintro e' w5 ⟨v, rfl, hS, hb⟩
  obtain ⟨Av, cv, rfl, hvc, hvC⟩ := Kd.S_reads hS
  have HVC := Aside0.mk hvC
  have HVL := Aside0.mk hvc
  have HL5 := Aside0.mk (HL4.out.below hb)
  have HB5 := Aside0.mk (below_step HB4.out hb)
  clear hS hb hvc hvC
  go_wp2_with fail
  refine (gangwayref0_EqCells.calls 20 Av cv [[120]] _ 1 [[120]] true _ (Kd.C_alloc (Kd.C_alloc HVC.out _) _) HVL.out (C_rows1 w5 120) (Nat.le_refl _) (by kernel_rfl)).mono ?_
  rintro e' w6 ⟨rfl, ⟨nd, rfl⟩⟩
  obtain ⟨k2, hd, hhd, hdl, hha⟩ := head_ex 1 9 (by decide) (by decide) (by decide) (by decide)
  have HB6 := Aside0.mk (below_alloc (below_alloc HB5.out (.cells #[.int .u8 120] 5 (1, 2))) (.cells #[.slice (some ⟨w5.heap.size, 0, none⟩) 1 1] 30))
  have HL6 := Aside0.mk (HL5.out.below (below_alloc (below_alloc (Below.refl w5.heap.size w5) (.cells #[.int .u8 120] 5 (1, 2))) (.cells #[.slice (some ⟨w5.heap.size, 0, none⟩) 1 1] 30)))
  have HHD := Aside0.mk hhd
  have hl9 : (layP [[120]]).length = 9 := by rw [length_layP]; decide
  have hs : ((⟨Dk.new E0 [], 0, [[120]], false⟩ : Lg).sync (layP [[120]]) hd).2 = 0 := by
    have hH : Holds E0 0 [] := by rw [HE0.out]; exact holds_64
    rcases sync_spec ⟨Dk.new E0 [], 0, [[120]], false⟩ (layP [[120]]) hd [] rfl rfl (by show E0.length % 64 = 0; rw [HLE.out]) (by show 128 ≤ E0.length; rw [HLE.out]; decide) rfl hH rfl (by show layLen [[120]] ≤ areaOf E0.length * 64; rw [HLE.out]; decide) (by show layLen [[120]] ≤ 1000000; decide) hha hdl with h | h
    · exact h.1
    · exact absurd h.1 (sync_quiet _ _ _ rfl (fun _ => rfl))
  have HS := Aside0.mk hs
  have hly : Lays [[120]] (layP [[120]]) := lays [[120]] (by decide)
  have HLY := Aside0.mk hly
  clear hhd hdl hha hs
  go_wp2_with fail
  refine (log_Log_Sync.walk k2 g _ w.heap.size _ d ⟨Dk.new E0 [], 0, [[120]], false⟩ (layP [[120]]) hd (LgAt.below HL6.out (pw_below_drewN (Below.refl _ _) nd)) (pw_below_drewN HB6.out nd).size HLY.out ⟨by show (0 : Int) ≤ 0; decide, by show (0 : Int) < 9223372036854775807; decide⟩ (by rw [hl9]; exact HHD.out)).mono ?_
  rintro e' w7 ⟨rfl, _, _, hb⟩
  rw [HS.out]
  have HB7 := Aside0.mk ((pw_below_drewN HB6.out nd).trans hb)
  clear hb
  go_wp2_with (first | (go_at_call 35; refine (lg_num _ _).mono ?_; rintro e' w' ⟨rfl, rfl⟩))
  go_ret
  exact ⟨rfl, HB7.out⟩

end Go.Proofs.Ytpkhpfgojhojaaa.PLg

namespace Go.Proofs.Ytpkhpfgojhojaaa.PLg
open Go.RowKit Go.Proofs.YtpkhpfgojhojaaaW.PrintWords Go.Proofs.YtpkhpfgojhojaaaW.PrintLast Go.Proofs.YtpkhpfgojhojaaaW.PrintMore
attribute [local go_sem] max2_int min2_int max_two min_two max_three min_three max_four min_four
set_option linter.unusedVariables false
set_option linter.unusedSimpArgs false
-- IMPORT: Derived.Test.@N@WOwn
-- IMPORT: Derived.Test.@N@DLwakes
/-- The cells of an act of law 12. -/
theorem act12_cells {w W : World} {A : Option Addr} {l : List S65} (h : Kd.C k65 w A l.length l) (hb : Below w.heap.size w W) (i : Nat) (hi : i < l.length) :
    ∃ ad X y X2 y2, A = some ad ∧ W.cell? (ad.add (i * 4)) = some (.int .i64 (l.getD i z65).f0) ∧ W.cell? ⟨(ad.add (i * 4)).block, (ad.add (i * 4)).off + 1, none⟩ = some (.int .i64 (l.getD i z65).f1) ∧
      W.cell? ⟨(ad.add (i * 4)).block, (ad.add (i * 4)).off + 2, none⟩ = some (.slice X (l.getD i z65).f2.length y) ∧ (l.getD i z65).f2.length ≤ y ∧ (Kd.int .u8).C w X (l.getD i z65).f2.length (l.getD i z65).f2 ∧
      W.cell? ⟨(ad.add (i * 4)).block, (ad.add (i * 4)).off + 3, none⟩ = some (.slice X2 (l.getD i z65).f3.length y2) ∧ (l.getD i z65).f3.length ≤ y2 ∧ (Kd.int .i64).C w X2 (l.getD i z65).f3.length (l.getD i z65).f3 := by
  obtain ⟨ad, c, e, _, hK, hc0⟩ := Kd.C_get h z65 (i : Int) (by omega) (by omega)
  have hc : ∀ j u, c[j]? = some u → w.cell? (ad.add (i * 4 + j)) = some u := fun j u hu => by have := hc0 j u hu; rwa [Int.toNat_natCast] at this
  rw [Int.toNat_natCast] at hK
  obtain ⟨A2, c2, A3, c3, rfl, h1, h2, h3, h4⟩ := k65_open hK
  have up : ∀ {a : Addr} {v : Value}, w.cell? a = some v → W.cell? a = some v := fun h => (hb.cell (World.block_lt_of_cell? _ _ h)).trans h
  have q0 := hc 0 _ rfl
  have q1 := hc 1 _ rfl
  have q2 := hc 2 _ rfl
  have q3 := hc 3 _ rfl
  rw [Nat.add_zero] at q0
  rw [add_field _ _ _ (by decide)] at q1 q2 q3
  exact ⟨ad, A2, c2, A3, c3, e, up q0, up q1, up q2, h1, h2, up q3, h3, h4⟩

end Go.Proofs.Ytpkhpfgojhojaaa.PLg

namespace Go.Proofs.Ytpkhpfgojhojaaa.PLg
open Go.RowKit Go.Proofs.YtpkhpfgojhojaaaW.PrintWords Go.Proofs.YtpkhpfgojhojaaaW.PrintLast Go.Proofs.YtpkhpfgojhojaaaW.PrintMore
attribute [local go_sem] max2_int min2_int max_two min_two max_three min_three max_four min_four   -- for this text's walks alone
set_option linter.unusedVariables false
set_option linter.unusedSimpArgs false

/-! ### gangwaylaw12_heavy: function 32 -/
def gangwaylaw12_heavy.l0 : Nat → Int → Int → Int → List (S45) → List (S65) → Option (Bool)
  | 0, _, _, _, _, _ => none
  | k + 1, x3, x4, x106000, x106001, x106002 => if x4 < (x106002.length : Int) then (if x4 < 25 then (if 0 ≤ x4 then (gangwaylaw12_heavy.l0 k (wrap64 ((wrap64 (x3 + (((rd_T65 x106002 x4).f2).length : Int))) + (((rd_T65 x106002 x4).f3).length : Int))) (wrap64 (x4 + 1)) x106000 x106001 x106002) else (none)) else (if x3 > 8000 then (some true) else (some (decide ((x106001.length : Int) > 20))))) else (if x3 > 8000 then (some true) else (some (decide ((x106001.length : Int) > 20))))
def gangwaylaw12_heavy.f (k : Nat) (a0_0 : Int) (l0_1 : List (S45)) (l0_2 : List (S65)) : Option (Bool) := gangwaylaw12_heavy.l0 k 0 0 a0_0 l0_1 l0_2
theorem gangwaylaw12_heavy.mono_l : ∀ k, (∀ y0 y1 y2 y3 y4, LeO (gangwaylaw12_heavy.l0 k y0 y1 y2 y3 y4) (gangwaylaw12_heavy.l0 (k + 1) y0 y1 y2 y3 y4))
  | 0 => fun _ _ _ _ _ r h => by simp [gangwaylaw12_heavy.l0] at h
  | k + 1 => by
    have ih0 := gangwaylaw12_heavy.mono_l k
    · intro y0 y1 y2 y3 y4
      unfold gangwaylaw12_heavy.l0
      repeat' first
      | (with_reducible exact ih0 _ _ _ _ _)
      | (with_reducible exact LeO.refl _)
      | (with_reducible exact LeO.none _)
      | (with_reducible refine LeO.ite ?_ ?_)
      | (with_reducible refine LeO.bind ?_ (fun _ => ?_))
      | exact ih0 _ _ _ _ _
      | exact LeO.none _
      | refine LeO.ite ?_ ?_
      | refine LeO.bind ?_ (fun _ => ?_)
theorem gangwaylaw12_heavy.mono : ∀ a0 a1 a2 k, LeO (gangwaylaw12_heavy.f k a0 a1 a2) (gangwaylaw12_heavy.f (k + 1) a0 a1 a2) := by
  intro a0 a1 a2 k
  have ih0 := gangwaylaw12_heavy.mono_l k
  unfold gangwaylaw12_heavy.f
  repeat' first
      | (with_reducible exact ih0 _ _ _ _ _)
      | (with_reducible exact LeO.refl _)
      | (with_reducible exact LeO.none _)
      | (with_reducible refine LeO.ite ?_ ?_)
      | (with_reducible refine LeO.bind ?_ (fun _ => ?_))
      | exact ih0 _ _ _ _ _
      | exact LeO.none _
      | refine LeO.ite ?_ ?_
      | refine LeO.bind ?_ (fun _ => ?_)
set_option maxHeartbeats 8000000 in
set_option maxRecDepth 100000 in
theorem gangwaylaw12_heavy.calls (k : Nat) (a0_0 : Int) (A0_1 : Option Addr) (c0_1 : Nat) (l0_1 : List (S45)) (A0_2 : Option Addr) (c0_2 : Nat) (l0_2 : List (S65)) (r : Bool) (w : World) (hr0_1 : Kd.C k45 w A0_1 l0_1.length l0_1) (hc0_1 : l0_1.length ≤ c0_1) (hr0_2 : Kd.C k65 w A0_2 l0_2.length l0_2) (hc0_2 : l0_2.length ≤ c0_2) (h : gangwaylaw12_heavy.f k a0_0 l0_1 l0_2 = some r) :
    Calls Try.prog 32 #[.agg #[.int .i64 a0_0, .slice A0_1 l0_1.length c0_1, .slice A0_2 l0_2.length c0_2]] w fun e w' => e = .returned (.bool r) ∧ Below w.heap.size w w' := by
  have hu60 := Try.underlying60
  have HR0_1 := Aside0.mk hr0_1
  have HC0_1 := Aside0.mk hc0_1
  clear hr0_1 hc0_1
  have HR0_2 := Aside0.mk hr0_2
  have HC0_2 := Aside0.mk hc0_2
  clear hr0_2 hc0_2
  have HB := Aside0.mk (Below.refl w.heap.size w)
  have H : (gangwaylaw12_heavy.l0 k 0 0 a0_0 l0_1 l0_2) = some r := h
  clear h
  have H' := Aside0.mk H
  clear H
  go_enter Try.func32, Try.ntmps32
  go_wp2_with (first | ((with_reducible refine gate_dst (N := 1) rfl ?_); (try (refine gate_guard (by rfl) ?_; dsimp only)); refine box_event ?hg (N := 1) ?hd (cs := #[.int .i64 a0_0, .slice A0_1 l0_1.length c0_1, .slice A0_2 l0_2.length c0_2]) (t := 60) ?hr ?_; (case hd => rfl); (case hg => rfl); (case hr => first | (go_simp; done) | (go_simp; rfl)); intro gb105 hg w2 hbox hb; have n0_ := Aside0.mk (below_step (by repeat (first | (with_reducible first | exact HB.out | apply below_alloc | apply pw_below_drewN | apply below_drew1) | exact HB.out)) hb); have n1_ := Aside0.mk (hbox); have n2_ := Aside0.mk ((by rw [hg]; exact (below_size (by repeat (first | (with_reducible first | exact HB.out | apply below_alloc | apply pw_below_drewN | apply below_drew1) | exact HB.out))) : w.heap.size ≤ gb105)); have n3_ := Aside0.mk ((by rw [hg]; exact (below_size (by repeat (first | (with_reducible first | exact HB.out | apply below_alloc | apply pw_below_drewN | apply below_drew1) | exact HB.out))) : w.heap.size ≤ gb105)); clear HB; have HB := n0_; have BK105 := n1_; have GW105 := n2_; have GE105 := n3_; clear n0_ n1_ n2_ n3_; clear hb hbox hg))
  repeat (go_quiet (first | ((with_reducible refine gate_dst (N := 1) rfl ?_); (try (refine gate_guard (by rfl) ?_; dsimp only)); refine box_event ?hg (N := 1) ?hd (cs := #[.int .i64 a0_0, .slice A0_1 l0_1.length c0_1, .slice A0_2 l0_2.length c0_2]) (t := 60) ?hr ?_; (case hd => rfl); (case hg => rfl); (case hr => first | (go_simp; done) | (go_simp; rfl)); intro gb105 hg w2 hbox hb; have n0_ := Aside0.mk (below_step (by repeat (first | (with_reducible first | exact HB.out | apply below_alloc | apply pw_below_drewN | apply below_drew1) | exact HB.out)) hb); have n1_ := Aside0.mk (hbox); have n2_ := Aside0.mk ((by rw [hg]; exact (below_size (by repeat (first | (with_reducible first | exact HB.out | apply below_alloc | apply pw_below_drewN | apply below_drew1) | exact HB.out))) : w.heap.size ≤ gb105)); have n3_ := Aside0.mk ((by rw [hg]; exact (below_size (by repeat (first | (with_reducible first | exact HB.out | apply below_alloc | apply pw_below_drewN | apply below_drew1) | exact HB.out))) : w.heap.size ≤ gb105)); clear HB; have HB := n0_; have BK105 := n1_; have GW105 := n2_; have GE105 := n3_; clear n0_ n1_ n2_ n3_; clear hb hbox hg)); try go_wp2_with (first | ((with_reducible refine gate_dst (N := 1) rfl ?_); (try (refine gate_guard (by rfl) ?_; dsimp only)); refine box_event ?hg (N := 1) ?hd (cs := #[.int .i64 a0_0, .slice A0_1 l0_1.length c0_1, .slice A0_2 l0_2.length c0_2]) (t := 60) ?hr ?_; (case hd => rfl); (case hg => rfl); (case hr => first | (go_simp; done) | (go_simp; rfl)); intro gb105 hg w2 hbox hb; have n0_ := Aside0.mk (below_step (by repeat (first | (with_reducible first | exact HB.out | apply below_alloc | apply pw_below_drewN | apply below_drew1) | exact HB.out)) hb); have n1_ := Aside0.mk (hbox); have n2_ := Aside0.mk ((by rw [hg]; exact (below_size (by repeat (first | (with_reducible first | exact HB.out | apply below_alloc | apply pw_below_drewN | apply below_drew1) | exact HB.out))) : w.heap.size ≤ gb105)); have n3_ := Aside0.mk ((by rw [hg]; exact (below_size (by repeat (first | (with_reducible first | exact HB.out | apply below_alloc | apply pw_below_drewN | apply below_drew1) | exact HB.out))) : w.heap.size ≤ gb105)); clear HB; have HB := n0_; have BK105 := n1_; have GW105 := n2_; have GE105 := n3_; clear n0_ n1_ n2_ n3_; clear hb hbox hg)))
  go_loopg [3, 4] k (fun kq v3 v4 w' => ∃ (x3_1 : Int) (x4_1 : Int), v3 = .int .i64 x3_1 ∧ v4 = .int .i64 x4_1 ∧ Aside0 (gangwaylaw12_heavy.l0 kq x3_1 x4_1 a0_0 l0_1 l0_2 = some r) ∧ Aside0 (kq ≤ k) ∧ Aside0 (w'.heap[gb105]? = some (.cells #[.int .i64 a0_0, (.slice A0_1 l0_1.length c0_1), (.slice A0_2 l0_2.length c0_2)] 60 (0, 0))) ∧ Aside0 (Below w.heap.size w w'))
  case atStart => exact ⟨(0), (0), (by first | rfl | (simp; done) | (simp [*]; done)), (by first | rfl | (simp; done) | (simp [*]; done)), H', ⟨Nat.le_refl _⟩, ⟨by (with_reducible repeat (first | refine blk_drewN ?_ _ | refine blk_drew ?_ | refine blk_alloc ?_ _)); exact BK105.out⟩, ⟨by repeat (first | (with_reducible first | exact HB.out | apply below_alloc | apply pw_below_drewN | apply below_drew1 | refine below_set ?_ GE105.out) | exact HB.out)⟩⟩
  case round =>
    clear H'
    try clear p2
    obtain ⟨x3_1, x4_1, rfl, rfl, HA, HK1, BK105, HB⟩ := hrel
    cases gk with
    | zero => exact absurd HA.out (by simp [gangwaylaw12_heavy.l0])
    | succ k1 =>
      have H := HA.out
      clear HA
      simp only [gangwaylaw12_heavy.l0] at H
      by_cases c3 : x4_1 < (l0_2.length : Int)
      · rw [if_pos c3] at H
        have c3b0 : decide (x4_1 < (l0_2.length : Int)) = true := decide_eq_true c3
        clear c3
        by_cases c4 : x4_1 < 25
        · rw [if_pos c4] at H
          have c4b0 : decide (x4_1 < 25) = true := decide_eq_true c4
          clear c4
          by_cases c5 : 0 ≤ x4_1
          · rw [if_pos c5] at H
            have c5b0 : decide (0 ≤ x4_1) = true := decide_eq_true c5
            clear c5
            have H' := Aside0.mk H
            clear H
            have hcz6_0 : wr.cell? ⟨gb105, 0, none⟩ = some (.int .i64 a0_0) := (blk_cell BK105.out 0).trans rfl
            have hcz6_1 : wr.cell? ⟨gb105, 1, none⟩ = some (.slice A0_1 l0_1.length c0_1) := (blk_cell BK105.out 1).trans rfl
            have hcz6_2 : wr.cell? ⟨gb105, 2, none⟩ = some (.slice A0_2 l0_2.length c0_2) := (blk_cell BK105.out 2).trans rfl
            have hfz6_0 := blk_frozen BK105.out 0
            have hfz6_1 := blk_frozen BK105.out 1
            have hfz6_2 := blk_frozen BK105.out 2
            have p106 : 0 ≤ (x4_1 : Int) := of_decide_eq_true (by first | (with_reducible assumption) | assumption)
            have q106 : x4_1 < (l0_2.length : Int) := of_decide_eq_true (by first | (with_reducible assumption) | assumption)
            obtain ⟨ad106, A106_2, c106_2, A106_3, c106_3, e106, hx106_0, hx106_1, hx106_2, hx106_3, hl106_2, hi106_2, hl106_3, hi106_3⟩ := at_T65 HR0_2.out x4_1 p106 q106
            cases e106
            replace hx106_0 := (HB.out.cell (World.block_lt_of_cell? w _ hx106_0)).trans hx106_0
            replace hx106_1 := (HB.out.cell (World.block_lt_of_cell? w _ hx106_1)).trans hx106_1
            replace hx106_2 := (HB.out.cell (World.block_lt_of_cell? w _ hx106_2)).trans hx106_2
            replace hx106_3 := (HB.out.cell (World.block_lt_of_cell? w _ hx106_3)).trans hx106_3
            have HR106_2 := Aside0.mk hi106_2
            have HC106_2 := Aside0.mk hl106_2
            clear hi106_2 hl106_2
            have HR106_3 := Aside0.mk hi106_3
            have HC106_3 := Aside0.mk hl106_3
            clear hi106_3 hl106_3
            replace p106 := eq_true p106
            replace q106 := eq_true q106
            have p107 : 0 ≤ (x4_1 : Int) := of_decide_eq_true (by first | (with_reducible assumption) | assumption)
            have q107 : x4_1 < (l0_2.length : Int) := of_decide_eq_true (by first | (with_reducible assumption) | assumption)
            obtain ⟨ad107, A107_2, c107_2, A107_3, c107_3, e107, hx107_0, hx107_1, hx107_2, hx107_3, hl107_2, hi107_2, hl107_3, hi107_3⟩ := at_T65 HR0_2.out x4_1 p107 q107
            obtain rfl : ad106 = ad107 := (by injection e107)
            replace hx107_0 := (HB.out.cell (World.block_lt_of_cell? w _ hx107_0)).trans hx107_0
            replace hx107_1 := (HB.out.cell (World.block_lt_of_cell? w _ hx107_1)).trans hx107_1
            replace hx107_2 := (HB.out.cell (World.block_lt_of_cell? w _ hx107_2)).trans hx107_2
            replace hx107_3 := (HB.out.cell (World.block_lt_of_cell? w _ hx107_3)).trans hx107_3
            have HR107_2 := Aside0.mk hi107_2
            have HC107_2 := Aside0.mk hl107_2
            clear hi107_2 hl107_2
            have HR107_3 := Aside0.mk hi107_3
            have HC107_3 := Aside0.mk hl107_3
            clear hi107_3 hl107_3
            replace p107 := eq_true p107
            replace q107 := eq_true q107
            have ea_ := Option.some.inj (hx106_2.symm.trans hx107_2)
            injection ea_ with ea_ en_ ec_
            subst ea_
            subst ec_
            clear en_
            have ea_ := Option.some.inj (hx106_3.symm.trans hx107_3)
            injection ea_ with ea_ en_ ec_
            subst ea_
            subst ec_
            clear en_
            go_wp2
            repeat (go_quiet (fail); try go_wp2)
            go_roundg k1
            case measure => have := HK1.out; omega
            case rel => exact ⟨(wrap64 ((wrap64 (x3_1 + (((rd_T65 l0_2 x4_1).f2).length : Int))) + (((rd_T65 l0_2 x4_1).f3).length : Int))), (wrap64 (x4_1 + 1)), (by first | rfl | (simp; done) | (simp [*]; done)), (by first | rfl | (simp; done) | (simp [*]; done)), H', ⟨by have := HK1.out; omega⟩, ⟨by (with_reducible repeat (first | refine blk_drewN ?_ _ | refine blk_drew ?_ | refine blk_alloc ?_ _)); exact BK105.out⟩, ⟨by repeat (first | (with_reducible first | exact HB.out | apply below_alloc | apply pw_below_drewN | apply below_drew1 | refine below_set ?_ GE105.out) | exact HB.out)⟩⟩
          · rw [if_neg c5] at H
            exact absurd H (by simp)
        · rw [if_neg c4] at H
          have c4b0 : decide (x4_1 < 25) = false := decide_eq_false c4
          clear c4
          by_cases c7 : x3_1 > 8000
          · rw [if_pos c7] at H
            have c7b0 : decide (8000 < x3_1) = true := decide_eq_true c7
            clear c7
            obtain rfl := Option.some.inj H
            have hcz8_0 : wr.cell? ⟨gb105, 0, none⟩ = some (.int .i64 a0_0) := (blk_cell BK105.out 0).trans rfl
            have hcz8_1 : wr.cell? ⟨gb105, 1, none⟩ = some (.slice A0_1 l0_1.length c0_1) := (blk_cell BK105.out 1).trans rfl
            have hcz8_2 : wr.cell? ⟨gb105, 2, none⟩ = some (.slice A0_2 l0_2.length c0_2) := (blk_cell BK105.out 2).trans rfl
            have hfz8_0 := blk_frozen BK105.out 0
            have hfz8_1 := blk_frozen BK105.out 1
            have hfz8_2 := blk_frozen BK105.out 2
            go_wp2
            repeat (go_quiet (fail); try go_wp2)
            go_ret
            exact ⟨by first | rfl | (simp [errW_none, errW_some] <;> rfl) | (simp [*, errW_none, errW_some] <;> rfl), by repeat (first | (with_reducible first | exact HB.out | apply below_alloc | apply pw_below_drewN | apply below_drew1 | refine below_set ?_ GE105.out) | exact HB.out)⟩
          · rw [if_neg c7] at H
            have c7b0 : decide (8000 < x3_1) = false := decide_eq_false c7
            clear c7
            obtain rfl := Option.some.inj H
            have hcz9_0 : wr.cell? ⟨gb105, 0, none⟩ = some (.int .i64 a0_0) := (blk_cell BK105.out 0).trans rfl
            have hcz9_1 : wr.cell? ⟨gb105, 1, none⟩ = some (.slice A0_1 l0_1.length c0_1) := (blk_cell BK105.out 1).trans rfl
            have hcz9_2 : wr.cell? ⟨gb105, 2, none⟩ = some (.slice A0_2 l0_2.length c0_2) := (blk_cell BK105.out 2).trans rfl
            have hfz9_0 := blk_frozen BK105.out 0
            have hfz9_1 := blk_frozen BK105.out 1
            have hfz9_2 := blk_frozen BK105.out 2
            go_wp2
            repeat (go_quiet (fail); try go_wp2)
            go_ret
            exact ⟨by first | rfl | (simp [errW_none, errW_some] <;> rfl) | (simp [*, errW_none, errW_some] <;> rfl), by repeat (first | (with_reducible first | exact HB.out | apply below_alloc | apply pw_below_drewN | apply below_drew1 | refine below_set ?_ GE105.out) | exact HB.out)⟩
      · rw [if_neg c3] at H
        have c3b0 : decide (x4_1 < (l0_2.length : Int)) = false := decide_eq_false c3
        clear c3
        by_cases c10 : x3_1 > 8000
        · rw [if_pos c10] at H
          have c10b0 : decide (8000 < x3_1) = true := decide_eq_true c10
          clear c10
          obtain rfl := Option.some.inj H
          have hcz11_0 : wr.cell? ⟨gb105, 0, none⟩ = some (.int .i64 a0_0) := (blk_cell BK105.out 0).trans rfl
          have hcz11_1 : wr.cell? ⟨gb105, 1, none⟩ = some (.slice A0_1 l0_1.length c0_1) := (blk_cell BK105.out 1).trans rfl
          have hcz11_2 : wr.cell? ⟨gb105, 2, none⟩ = some (.slice A0_2 l0_2.length c0_2) := (blk_cell BK105.out 2).trans rfl
          have hfz11_0 := blk_frozen BK105.out 0
          have hfz11_1 := blk_frozen BK105.out 1
          have hfz11_2 := blk_frozen BK105.out 2
          go_wp2
          repeat (go_quiet (fail); try go_wp2)
          go_ret
          exact ⟨by first | rfl | (simp [errW_none, errW_some] <;> rfl) | (simp [*, errW_none, errW_some] <;> rfl), by repeat (first | (with_reducible first | exact HB.out | apply below_alloc | apply pw_below_drewN | apply below_drew1 | refine below_set ?_ GE105.out) | exact HB.out)⟩
        · rw [if_neg c10] at H
          have c10b0 : decide (8000 < x3_1) = false := decide_eq_false c10
          clear c10
          obtain rfl := Option.some.inj H
          have hcz12_0 : wr.cell? ⟨gb105, 0, none⟩ = some (.int .i64 a0_0) := (blk_cell BK105.out 0).trans rfl
          have hcz12_1 : wr.cell? ⟨gb105, 1, none⟩ = some (.slice A0_1 l0_1.length c0_1) := (blk_cell BK105.out 1).trans rfl
          have hcz12_2 : wr.cell? ⟨gb105, 2, none⟩ = some (.slice A0_2 l0_2.length c0_2) := (blk_cell BK105.out 2).trans rfl
          have hfz12_0 := blk_frozen BK105.out 0
          have hfz12_1 := blk_frozen BK105.out 1
          have hfz12_2 := blk_frozen BK105.out 2
          go_wp2
          repeat (go_quiet (fail); try go_wp2)
          go_ret
          exact ⟨by first | rfl | (simp [errW_none, errW_some] <;> rfl) | (simp [*, errW_none, errW_some] <;> rfl), by repeat (first | (with_reducible first | exact HB.out | apply below_alloc | apply pw_below_drewN | apply below_drew1 | refine below_set ?_ GE105.out) | exact HB.out)⟩

end Go.Proofs.Ytpkhpfgojhojaaa.PLg

namespace Go.Proofs.Ytpkhpfgojhojaaa.PLg
open Go.RowKit Go.Proofs.YtpkhpfgojhojaaaW.PrintWords Go.Proofs.YtpkhpfgojhojaaaW.PrintLast Go.Proofs.YtpkhpfgojhojaaaW.PrintMore
attribute [local go_sem] max2_int min2_int max_two min_two max_three min_three max_four min_four
set_option linter.unusedVariables false
set_option linter.unusedSimpArgs false
-- IMPORT: Derived.Test.@N@WOwn
-- IMPORT: Derived.Test.@N@DLquiet
theorem layLen_snoc (rs : List (List Int)) (r : List Int) : layLen (rs ++ [r]) = layLen rs + (8 + r.length) := by
  unfold layLen
  rw [List.map_append, List.sum_append]
  simp
theorem heavy_l0 (a : Int) (l1 : List S45) (l2 : List S65) : ∀ (d i : Nat) (x : Int), i + d = 25 → ∃ r, gangwaylaw12_heavy.l0 (d + 1) x (i : Int) a l1 l2 = some r
  | 0, i, x, h => by
    rw [gangwaylaw12_heavy.l0, if_neg (c := (i : Int) < 25) (by omega)]
    split
    · split
      · exact ⟨_, rfl⟩
      · exact ⟨_, rfl⟩
    · split
      · exact ⟨_, rfl⟩
      · exact ⟨_, rfl⟩
  | d + 1, i, x, h => by
    obtain ⟨r, hr⟩ := heavy_l0 a l1 l2 d (i + 1) (wrap64 ((wrap64 (x + (((rd_T65 l2 (i : Int)).f2).length : Int))) + (((rd_T65 l2 (i : Int)).f3).length : Int))) (by omega)
    rw [gangwaylaw12_heavy.l0, if_pos (c := (i : Int) < 25) (by omega), if_pos (c := (0 : Int) ≤ (i : Int)) (by omega), w64 ((i : Int) + 1) (by omega), show (i : Int) + 1 = ((i + 1 : Nat) : Int) by omega, hr]
    split
    · exact ⟨_, rfl⟩
    · split
      · exact ⟨_, rfl⟩
      · exact ⟨_, rfl⟩
theorem heavy_ex (a : Int) (l1 : List S45) (l2 : List S65) : ∃ k r, gangwaylaw12_heavy.f k a l1 l2 = some r := by
  obtain ⟨r, hr⟩ := heavy_l0 a l1 l2 25 0 0 rfl
  exact ⟨_, r, hr⟩

end Go.Proofs.Ytpkhpfgojhojaaa.PLg

namespace Go.Proofs.Ytpkhpfgojhojaaa.PLg
open Go.RowKit Go.Proofs.YtpkhpfgojhojaaaW.PrintWords Go.Proofs.YtpkhpfgojhojaaaW.PrintLast Go.Proofs.YtpkhpfgojhojaaaW.PrintMore
attribute [local go_sem] max2_int min2_int max_two min_two max_three min_three max_four min_four   -- for this text's walks alone
set_option linter.unusedVariables false
set_option linter.unusedSimpArgs false

/-! ### gangwayref0_CopyBytes: function 20 -/
def gangwayref0_CopyBytes.l0 : Nat → List Int → List Int → Int → Option (List Int)
  | 0, _, _, _ => none
  | k + 1, x0, x3, x4 => if x4 < (x0.length : Int) then (if 0 ≤ x4 then (if x3.length < 140737488355328 then (gangwayref0_CopyBytes.l0 k x0 (x3 ++ [rd x0 x4]) (wrap64 (x4 + 1))) else (none)) else (none)) else (some x3)
def gangwayref0_CopyBytes.f (k : Nat) (l0 : List Int) : Option (List Int) := gangwayref0_CopyBytes.l0 k l0 ([] : List Int) 0
theorem gangwayref0_CopyBytes.mono_l : ∀ k, (∀ y0 y1 y2, LeO (gangwayref0_CopyBytes.l0 k y0 y1 y2) (gangwayref0_CopyBytes.l0 (k + 1) y0 y1 y2))
  | 0 => fun _ _ _ r h => by simp [gangwayref0_CopyBytes.l0] at h
  | k + 1 => by
    have ih0 := gangwayref0_CopyBytes.mono_l k
    · intro y0 y1 y2
      unfold gangwayref0_CopyBytes.l0
      repeat' first
      | (with_reducible exact ih0 _ _ _)
      | (with_reducible exact LeO.refl _)
      | (with_reducible exact LeO.none _)
      | (with_reducible refine LeO.ite ?_ ?_)
      | (with_reducible refine LeO.bind ?_ (fun _ => ?_))
      | exact ih0 _ _ _
      | exact LeO.none _
      | refine LeO.ite ?_ ?_
      | refine LeO.bind ?_ (fun _ => ?_)
theorem gangwayref0_CopyBytes.mono : ∀ a0 k, LeO (gangwayref0_CopyBytes.f k a0) (gangwayref0_CopyBytes.f (k + 1) a0) := by
  intro a0 k
  have ih0 := gangwayref0_CopyBytes.mono_l k
  unfold gangwayref0_CopyBytes.f
  repeat' first
      | (with_reducible exact ih0 _ _ _)
      | (with_reducible exact LeO.refl _)
      | (with_reducible exact LeO.none _)
      | (with_reducible refine LeO.ite ?_ ?_)
      | (with_reducible refine LeO.bind ?_ (fun _ => ?_))
      | exact ih0 _ _ _
      | exact LeO.none _
      | refine LeO.ite ?_ ?_
      | refine LeO.bind ?_ (fun _ => ?_)
set_option maxHeartbeats 8000000 in
set_option maxRecDepth 100000 in
theorem gangwayref0_CopyBytes.calls (k : Nat) (A0 : Option Addr) (c0 : Nat) (l0 : List Int) (r : List Int) (w : World) (hr0 : Kd.C (Kd.int .u8) w A0 l0.length l0) (hc0 : l0.length ≤ c0) (h : gangwayref0_CopyBytes.f k l0 = some r) :
    Calls Try.prog 20 #[.slice A0 l0.length c0] w fun e w' => ∃ v0_ : Value, e = .returned (v0_) ∧ Kd.R (Kd.int .u8) 5 w' w.heap.size (fun _ => True) v0_ r ∧ Below w.heap.size w w' := by
  have HR0 := Aside0.mk hr0
  have HC0 := Aside0.mk hc0
  clear hr0 hc0
  have HB := Aside0.mk (Below.refl w.heap.size w)
  have H : (gangwayref0_CopyBytes.l0 k l0 ([] : List Int) 0) = some r := h
  clear h
  have H' := Aside0.mk H
  clear H
  go_enter Try.func20, Try.ntmps20
  go_wp2
  go_loopg [3, 4] k (fun kq v3 v4 w' => ∃ (x3_1 : List Int) (x4_1 : Int), v4 = .int .i64 x4_1 ∧ Aside0 (gangwayref0_CopyBytes.l0 kq l0 x3_1 x4_1 = some r) ∧ Aside0 (kq ≤ k) ∧ Aside0 (Kd.R (Kd.int .u8) 5 w' w.heap.size (fun _ => True) v3 x3_1) ∧ Aside0 (Below w.heap.size w w'))
  case atStart => exact ⟨(([] : List Int)), (0), (by first | rfl | (simp; done) | (simp [*]; done)), H', ⟨Nat.le_refl _⟩, ⟨by first | exact Kd.R_nil _ _ _ _ _ | exact Kd.N_nil _ _ _ _ _ | exact Kd.V_nil _ _ _ _ _ | exact Kd.Q_nil _ _ _ _ _ | exact Kd.S_nil _ _ _ _ _⟩, ⟨by repeat (first | (with_reducible first | exact HB.out | apply below_alloc | apply pw_below_drewN | apply below_drew1) | exact HB.out)⟩⟩
  case round =>
    clear H'
    obtain ⟨x3_1, x4_1, rfl, HA, HK1, HO_3, HB⟩ := hrel
    cases gk with
    | zero => exact absurd HA.out (by simp [gangwayref0_CopyBytes.l0])
    | succ k1 =>
      have H := HA.out
      clear HA
      simp only [gangwayref0_CopyBytes.l0] at H
      by_cases c2 : x4_1 < (l0.length : Int)
      · rw [if_pos c2] at H
        have c2b0 : decide (x4_1 < (l0.length : Int)) = true := decide_eq_true c2
        clear c2
        by_cases c3 : 0 ≤ x4_1
        · rw [if_pos c3] at H
          have c3b0 : decide (0 ≤ x4_1) = true := decide_eq_true c3
          clear c3
          by_cases c4 : x3_1.length < 140737488355328
          · rw [if_pos c4] at H
            have LMc4 := Aside0.mk c4
            clear c4
            obtain ⟨y102, hy102⟩ : ∃ y_ : List Int, y_ = (x3_1 ++ [rd l0 x4_1]) := ⟨_, rfl⟩
            replace H : (gangwayref0_CopyBytes.l0 k1 l0 y102 (wrap64 (x4_1 + 1))) = some r := by first | (rw [hy102]; with_reducible exact H) | (have H2_ := (Option.bind_some _ _).symm.trans H; rw [hy102]; with_reducible exact H2_) | (have H2_ := (Option.bind_some _ _).symm.trans H; with_reducible exact H2_) | with_reducible exact H | (rw [hy102]; exact H) | exact H
            have Ny102 := Aside0.mk hy102
            clear hy102
            have H' := Aside0.mk H
            clear H
            have p101 : 0 ≤ (x4_1 : Int) := of_decide_eq_true (by first | (with_reducible assumption) | assumption)
            have q101 : x4_1 < (l0.length : Int) := of_decide_eq_true (by first | (with_reducible assumption) | assumption)
            obtain ⟨ad101, e101, hx101_0⟩ := Kd.at_int HR0.out x4_1 p101 q101
            cases e101
            replace hx101_0 := (HB.out.cell (World.block_lt_of_cell? w _ hx101_0)).trans hx101_0
            replace p101 := eq_true p101
            replace q101 := eq_true q101
            go_wp2_with (first | ((with_reducible refine gate_builtin (b := .append) (xs := #[.tmp 11, .tmp 16]) rfl ?_); at_builtin; refine Kd.R_append (Kd.int .u8) (w0 := w) w.heap.size rfl (.tmp 11) (.tmp 16) 30 5 (.int .u8 0) 1 rfl Try.underlying30 info5 rfl (by decide) (by omega) u3 x3_1 (rd l0 x4_1) [.int .u8 (rd l0 x4_1)] (fun _ => True) (fun _ => False) rfl rfl ?aP (fun _ hk => hk.elim) ?aF ?aO ?aB ?aS ?aL ?_; (case aP => exact rfl); (case aB => exact (by repeat (first | (with_reducible first | exact HB.out | apply below_alloc | apply pw_below_drewN | apply below_drew1) | exact HB.out))); (case aF => exact (fun _ _ => trivial)); (case aO => exact (by (with_reducible repeat (first | apply Kd.R_alloc | apply Kd.R_drewN | apply Kd.R_drew)); exact HO_3.out)); (case aS => exact (below_size (by repeat (first | (with_reducible first | exact HB.out | apply below_alloc | apply pw_below_drewN | apply below_drew1) | exact HB.out)))); (case aL => have := LMc4.out; omega); intro v103 w5 ho hb hg hat; rw [← Ny102.out] at ho; have n0_ := Aside0.mk (hb); have n1_ := Aside0.mk (ho); clear HB; clear HO_3; have HB := n0_; have HO104 := n1_; clear n0_ n1_; clear ho hb hg hat))
            go_roundg k1
            case measure => have := HK1.out; omega
            case rel => exact ⟨(y102), (wrap64 (x4_1 + 1)), (by first | rfl | (simp; done) | (simp [*]; done)), H', ⟨by have := HK1.out; omega⟩, ⟨by (with_reducible repeat (first | apply Kd.R_alloc | apply Kd.R_drewN | apply Kd.R_drew)); exact HO104.out⟩, ⟨by repeat (first | (with_reducible first | exact HB.out | apply below_alloc | apply pw_below_drewN | apply below_drew1) | exact HB.out)⟩⟩
          · rw [if_neg c4] at H
            exact absurd H (by simp)
        · rw [if_neg c3] at H
          exact absurd H (by simp)
      · rw [if_neg c2] at H
        have c2b0 : decide (x4_1 < (l0.length : Int)) = false := decide_eq_false c2
        clear c2
        obtain rfl := Option.some.inj H
        go_wp2
        go_ret
        exact ⟨_, by first | rfl | (simp [errW_none, errW_some] <;> rfl) | (simp [*, errW_none, errW_some] <;> rfl), by (with_reducible repeat (first | apply Kd.R_alloc | apply Kd.R_drewN | apply Kd.R_drew)); exact HO_3.out, by repeat (first | (with_reducible first | exact HB.out | apply below_alloc | apply pw_below_drewN | apply below_drew1) | exact HB.out)⟩

end Go.Proofs.Ytpkhpfgojhojaaa.PLg
