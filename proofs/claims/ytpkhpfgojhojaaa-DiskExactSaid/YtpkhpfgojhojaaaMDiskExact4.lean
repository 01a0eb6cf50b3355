/- Parts of one proof, merged by merge.py of this repo: walks over the given program and plain facts, used by the law of the file YtpkhpfgojhojaaaCDiskExact. -/
import Derived.Test.YtpkhpfgojhojaaaMDiskExact3
import Derived.Test.YtpkhpfgojhojaaaMDiskExact2
namespace Go.Proofs.Ytpkhpfgojhojaaa.PDk
open Go.RowKit Go.Proofs.YtpkhpfgojhojaaaW.PrintWords Go.Proofs.YtpkhpfgojhojaaaW.PrintLast Go.Proofs.YtpkhpfgojhojaaaW.PrintMore
attribute [local go_sem] max2_int min2_int max_two min_two max_three min_three max_four min_four
set_option linter.unusedVariables false
set_option linter.unusedSimpArgs false
-- IMPORT: Derived.Test.@N@WOwn
-- IMPORT: Derived.Test.@N@DRead
-- IMPORT: Derived.Test.@N@DPure
/-- What a crash leaves: from sector i on. -/
def crashL (S E : List Int) : Nat → Nat → List Int → List Int → List Int
  | 0, _, b, _ => b
  | k + 1, i, b, ps => if sec S i = sec E i ∨ ps = [] then crashL S E k (i + 1) b ps else crashL S E k (i + 1) (if (ps.headD 0).tmod 2 = 0 then b else splice b (i * 64) (sec E i)) ps.tail
def Dk.crash (x : Dk) (ps : List Int) : List Int := crashL x.S x.E (x.E.length / 64) 0 x.S ps
theorem length_crashL (S E : List Int) : ∀ (k i : Nat) (b ps : List Int), (i + k) * 64 ≤ E.length → (i + k) * 64 ≤ b.length → (crashL S E k i b ps).length = b.length
  | 0, i, b, ps, h, h' => rfl
  | k + 1, i, b, ps, h, h' => by
    rw [crashL]
    split
    · exact length_crashL S E k (i + 1) b ps (by omega) (by omega)
    · split
      · exact length_crashL S E k (i + 1) b ps.tail (by omega) (by omega)
      · rw [length_crashL S E k (i + 1) _ ps.tail (by omega) (by rw [length_splice _ _ _ (by rw [length_sec _ _ (by omega)]; omega)]; omega), length_splice _ _ _ (by rw [length_sec _ _ (by omega)]; omega)]
theorem cut_C {P : Program} (t e : TypeId) (kl : IntKind) {i : TypeInfo} (ht : P.underlying t = some (.slice e)) (hi : P.info? e = some i) (hsz : i.size = 1) (A : Option Addr) (n c m : Nat) (hm : m ≤ n) :
    ∃ A' : Option Addr, (∀ W : World, (Instr.slice t (.slice A n c) (some (.int kl (m : Int))) none none).run P W = .ok (.slice A' (n - m) (c - m)) W) ∧
      ∀ (w : World) (k : IntKind) (xs : List Int), n ≤ c → (Kd.int k).C w A n xs → (Kd.int k).C w A' (n - m) (xs.drop m) := by
  refine ⟨if c = m then A else A.map (·.add m), fun W => ?_, fun w k xs hc h => ?_⟩
  · have hel : P.elem t = e := by simp [Program.elem, ht]
    have hu : P.underlying t = some (.slice (P.elem t)) := by rw [hel]; exact ht
    rw [run_slice_l W t A n c hu kl (m : Int) (Int.natCast_nonneg _) (by omega), hel]
    simp [sizeOf, typeInfo, hi, hsz, sliced, Result.andThen]
  · obtain rfl : xs.length = n := h.1
    have := Kd.C_drop h hm hc
    rw [List.length_drop, show (Kd.int k).sz = 1 from rfl, Nat.mul_one] at this
    exact this
set_option maxHeartbeats 8000000 in
set_option maxRecDepth 100000 in
theorem dk_Crash (d : Nat) (P0 : Option Addr) (cp0 : Nat) (ps0 : List Int) (w : World) (base : Nat) (ok : Nat → Prop) (x : Dk) (h : DkAt w base ok d x) (hP : (Kd.int .i64).C w P0 ps0.length ps0) (hcp : ps0.length ≤ cp0) :
    Calls Try.prog 13 #[.pointer (some ⟨d, 0, none⟩), .slice P0 ps0.length cp0] w fun e w' => ∃ v, e = .returned v ∧ (Kd.int .u8).R 5 w' w.heap.size (fun _ => True) v (x.crash ps0) ∧ Below w.heap.size w w' := by
  have H := Aside0.mk h
  obtain ⟨gs, cs, ge, ce, bm, mm, D, h1, h2, h3, h4, h5, h6, h7, h8, h9, h10, h11⟩ := h
  have H1 := Aside0.mk h1
  have hc0 := (blk_cell h1 0).trans rfl
  have HSC := Aside0.mk (Kd.R_reads' h2)
  have HEC := Aside0.mk (Kd.R_reads' h3)
  have HFI := Aside0.mk h11
  have HP := Aside0.mk hP
  have HCP := Aside0.mk hcp
  have HCS := Aside0.mk (Kd.R_reads' h2).2.1
  have HCE := Aside0.mk (Kd.R_reads' h3).2.1
  have HMS : Aside0 (x.S.length ≤ 140737488355328) := ⟨by have := h11.1; have := h11.2.2.2; omega⟩
  have HME : Aside0 (x.E.length ≤ 140737488355328) := ⟨by have := h11.2.2.2; omega⟩
  have hds := Try.underlying82
  clear h1 h2 h3 h4 h5 h6 h7 h8 h9 h10 h11 hP hcp
  go_enter Try.func13, Try.ntmps13
  go_wp2_with (first | (go_at_call 48; refine (slices_Clone_byte_byte.calls (some ⟨gs, 0, none⟩) cs x.S x.S _ HSC.out.2.2 HSC.out.2.1 (clone_some (by have := HFI.out.1; have := HFI.out.2.2.2; omega))).mono ?_; rintro e w1 ⟨v0, rfl, hR, hb⟩; obtain ⟨gb, cb, rfl, _⟩ := Kd.R_form hR (by have := HFI.out.1; have := HFI.out.2.2.1; omega); have HR1 := Aside0.mk hR; have HB1 := Aside0.mk hb; clear hR hb hc0) | (go_at_call 30; refine (dk_count d _ base _ x (H.out.below HB1.out)).mono ?_; rintro e w2 ⟨rfl, rfl⟩))
  obtain ⟨cnt, hcnt⟩ : ∃ cnt : Nat, cnt = x.E.length / 64 := ⟨_, rfl⟩
  have hcn : (x.E.length : Int) / 64 = (cnt : Int) := by omega
  rw [hcn]
  have HCN : Aside0 (cnt * 64 = x.E.length ∧ cnt * 64 = x.S.length ∧ cnt ≤ 16384) := ⟨by have := HFI.out.1; have := HFI.out.2.1; have := HFI.out.2.2.2; omega⟩
  have HCQ := Aside0.mk hcnt
  have HCB : Aside0 (x.S.length ≤ cb) := ⟨(Kd.R_reads' HR1.out).2.1⟩
  have hcm : cnt ≤ 16384 := HCN.out.2.2
  clear hcn hcnt
  go_loopw [1, 14] (fun v1 v14 w' => ∃ (i : Nat) (P : Option Addr) (cp : Nat) (ps bc : List Int), i ≤ cnt ∧ v1 = .slice P ps.length cp ∧ v14 = .int .i64 i ∧ Aside0 (ps.length ≤ cp) ∧ Aside0 ((Kd.int .i64).C w P ps.length ps) ∧ Aside0 (bc.length = x.S.length) ∧ Aside0 (crashL x.S x.E (cnt - i) i bc ps = x.crash ps0) ∧ Aside0 ((Kd.int .u8).R 5 w' w.heap.size (fun _ => True) (.slice (some ⟨gb, 0, none⟩) x.S.length cb) bc) ∧ Aside0 (Below w.heap.size w w')) (fun _ v14 _ => cnt - (intOf v14).toNat)
  case atStart => exact ⟨0, P0, cp0, ps0, x.S, Nat.zero_le _, rfl, rfl, HCP, HP, ⟨rfl⟩, ⟨by unfold Dk.crash; rw [← HCQ.out]; rfl⟩, HR1, HB1⟩
  case round =>
    clear HR1 HB1 HP HCP HCQ
    obtain ⟨i, P, cp, ps, bc, hi, rfl, rfl, HCP, HP, HBL, HCR, HRB, HB⟩ := hrel
    have hpm := HP.out.2.1
    by_cases hlt : i < cnt
    · have HIS : Aside0 (i * 64 + 64 ≤ x.S.length) := ⟨by have := HCN.out; omega⟩
      have HIE : Aside0 (i * 64 + 64 ≤ x.E.length) := ⟨by have := HCN.out; omega⟩
      have hd0 : wr.drew.cell? ⟨d, 0, none⟩ = some (.slice (some ⟨gs, 0, none⟩) x.S.length cs) := (blk_cell (blk_below H1.out (below_drew HB.out)) 0).trans rfl
      have hd1 : wr.drew.cell? ⟨d, 1, none⟩ = some (.slice (some ⟨ge, 0, none⟩) x.E.length ce) := (blk_cell (blk_below H1.out (below_drew HB.out)) 1).trans rfl
      have HEQ : Aside0 (∀ W, Below w.heap.size w W → Calls Try.prog 51 #[.slice (some ⟨gs, i * 64, none⟩) 64 (cs - i * 64), .slice (some ⟨ge, i * 64, none⟩) 64 (ce - i * 64)] W fun e w' => e = .returned (.bool (decide (sec x.S i = sec x.E i))) ∧ Drawn0 W w') := ⟨fun W hW => by
        have l1 := length_sec x.S i HIS.out
        have l2 := length_sec x.E i HIE.out
        have := dk_equal (some ⟨gs, i * 64, none⟩) (cs - i * 64) (sec x.S i) (some ⟨ge, i * 64, none⟩) (ce - i * 64) (sec x.E i) W (by rw [l1]; exact Kd.C_below (C_sub HSC.out.2.2 HIS.out) hW) (by rw [l1]; have := HIS.out; have := HCS.out; omega) (by rw [l2]; exact Kd.C_below (C_sub HEC.out.2.2 HIE.out) hW) (by rw [l2]; have := HIE.out; have := HCE.out; omega) (by rw [l1]; decide)
        rw [l1, l2] at this
        exact this⟩
      obtain ⟨m, hm⟩ : ∃ m, cnt - i = m + 1 := ⟨cnt - i - 1, by omega⟩
      have hcr := HCR.out
      rw [hm, crashL] at hcr
      by_cases q1 : sec x.S i = sec x.E i
      · rw [if_pos (.inl q1)] at hcr
        have HC2 : Aside0 (crashL x.S x.E (cnt - (i + 1)) (i + 1) bc ps = x.crash ps0) := ⟨by rw [show cnt - (i + 1) = m by omega]; exact hcr⟩
        have u1 : decide (sec x.S i = sec x.E i) = true := decide_eq_true q1
        rw [u1] at HEQ
        clear hcr hm q1 u1 HCR
        go_upto_region 5 with (fail)
        refine start_ (n := 18) (S := fun w' => w'.cell? ⟨d, 0, none⟩ = some (.slice (some ⟨gs, 0, none⟩) x.S.length cs) ∧ w'.cell? ⟨d, 1, none⟩ = some (.slice (some ⟨ge, 0, none⟩) x.E.length ce)) (ds := []) #[false, false, false, false, false, false, false, false, false, false, false, false, false, false, false, false, false, false] (by kernel_rfl) rfl rfl ⟨hd0, hd1⟩ (fun hHeld => ?_)
        refine pure_ (i := 0) (N := some 17) (v := ?_) (a' := ?_) #[true, false, false, false, false, false, false, false, false, false, false, false, false, false, false, false, false, false] rfl rfl (by kernel_rfl) (fun _ _ _ h => h) (Or.inl ⟨by rfl, ?_⟩) ?_ ?_
        rotate_left
        · intro w'
          go_simp
          with_reducible rfl
        rotate_left
        · simp only [Act.put, List.setIfInBounds_toArray, List.set_cons_zero, List.set_cons_succ, i64_w, i32_w]
          rfl
        refine pure_ (i := 1) (N := some 18) (v := ?_) (a' := ?_) #[true, true, false, false, false, false, false, false, false, false, false, false, false, false, false, false, false, false] rfl rfl (by kernel_rfl) (fun _ _ _ h => h) (Or.inl ⟨by rfl, ?_⟩) ?_ ?_
        rotate_left
        · intro w'
          go_simp
          with_reducible rfl
        rotate_left
        · simp only [Act.put, List.setIfInBounds_toArray, List.set_cons_zero, List.set_cons_succ, i64_w, i32_w]
          rfl
        refine pure_ (i := 2) (N := some 19) (v := ?_) (a' := ?_) #[true, true, true, false, false, false, false, false, false, false, false, false, false, false, false, false, false, false] rfl rfl (by kernel_rfl) (fun _ _ _ h => h) (Or.inl ⟨by rfl, ?_⟩) ?_ ?_
        rotate_left
        · intro w'
          go_simp
          with_reducible rfl
        rotate_left
        · simp only [Act.put, List.setIfInBounds_toArray, List.set_cons_zero, List.set_cons_succ, i64_w, i32_w]
          rfl
        refine pure_ (i := 4) (N := some 21) (v := ?_) (a' := ?_) #[true, true, true, false, true, false, false, false, false, false, false, false, false, false, false, false, false, false] rfl rfl (by kernel_rfl) (fun _ _ _ h => h) (Or.inl ⟨by rfl, ?_⟩) ?_ ?_
        rotate_left
        · intro w'
          go_simp
          with_reducible rfl
        rotate_left
        · simp only [Act.put, List.setIfInBounds_toArray, List.set_cons_zero, List.set_cons_succ, i64_w, i32_w]
          rfl
        refine pure_ (i := 6) (N := some 23) (v := ?_) (a' := ?_) #[true, true, true, false, true, false, true, false, false, false, false, false, false, false, false, false, false, false] rfl rfl (by kernel_rfl) (fun _ _ _ h => h) (Or.inl ⟨by rfl, ?_⟩) ?_ ?_
        rotate_left
        · intro w'
          go_simp
          with_reducible rfl
        rotate_left
        · simp only [Act.put, List.setIfInBounds_toArray, List.set_cons_zero, List.set_cons_succ, i64_w, i32_w]
          rfl
        refine pure_ (i := 7) (N := some 24) (v := ?_) (a' := ?_) #[true, true, true, false, true, false, true, true, false, false, false, false, false, false, false, false, false, false] rfl rfl (by kernel_rfl) (fun _ _ _ h => h) (Or.inl ⟨by rfl, ?_⟩) ?_ ?_
        rotate_left
        · intro w'
          go_simp
          with_reducible rfl
        rotate_left
        · simp only [Act.put, List.setIfInBounds_toArray, List.set_cons_zero, List.set_cons_succ, i64_w, i32_w]
          rfl
        refine pure_ (i := 8) (N := some 25) (v := ?_) (a' := ?_) #[true, true, true, false, true, false, true, true, true, false, false, false, false, false, false, false, false, false] rfl rfl (by kernel_rfl) (fun _ _ _ h => h) (Or.inl ⟨by rfl, ?_⟩) ?_ ?_
        rotate_left
        · intro w'
          go_simp
          with_reducible rfl
        rotate_left
        · simp only [Act.put, List.setIfInBounds_toArray, List.set_cons_zero, List.set_cons_succ, i64_w, i32_w]
          rfl
        refine pure_ (i := 10) (N := some 27) (v := ?_) (a' := ?_) #[true, true, true, false, true, false, true, true, true, false, true, false, false, false, false, false, false, false] rfl rfl (by kernel_rfl) (fun _ _ _ h => h) (Or.inl ⟨by rfl, ?_⟩) ?_ ?_
        rotate_left
        · intro w'
          go_simp
          with_reducible rfl
        rotate_left
        · simp only [Act.put, List.setIfInBounds_toArray, List.set_cons_zero, List.set_cons_succ, i64_w, i32_w]
          rfl
        refine take_ (i := 3) (N := some 20) (v := ?_) (a' := ?_) #[true, true, true, true, true, false, true, true, true, false, true, false, false, false, false, false, false, false] rfl rfl (by kernel_rfl) (fun _ _ _ h => h) (Or.inl ⟨by rfl, ?_⟩) hHeld ?_ ?_
        rotate_left
        · rintro w' ⟨s0, s1⟩
          go_simp
          with_reducible rfl
        rotate_left
        · simp only [Act.put, List.setIfInBounds_toArray, List.set_cons_zero, List.set_cons_succ, i64_w, i32_w]
          rfl
        refine take_ (i := 9) (N := some 26) (v := ?_) (a' := ?_) #[true, true, true, true, true, false, true, true, true, true, true, false, false, false, false, false, false, false] rfl rfl (by kernel_rfl) (fun _ _ _ h => h) (Or.inl ⟨by rfl, ?_⟩) hHeld ?_ ?_
        rotate_left
        · rintro w' ⟨s0, s1⟩
          go_simp
          with_reducible rfl
        rotate_left
        · simp only [Act.put, List.setIfInBounds_toArray, List.set_cons_zero, List.set_cons_succ, i64_w, i32_w]
          rfl
        refine one_ (i := 5) (N := some 22) #[true, true, true, true, true, true, true, true, true, true, true, false, false, false, false, false, false, false] rfl rfl (by kernel_rfl) (by decide) (fun K hK => ?_)
        refine goes_ Try.func52 (by kernel_rfl) rfl #[.slice (some ⟨gs, 0, none⟩) x.S.length cs, .int .i64 (i : Int)] (by rfl) rfl rfl (by simp only [List.map_toArray, List.map_cons, List.map_nil]; rfl) ?_
        with_reducible refine (dk_at gs x.S.length cs i _ HIS.out HCS.out HMS.out).mono ?_
        rintro e w3 ⟨rfl, rfl⟩
        refine ⟨_, rfl, ?_⟩
        refine hK.out _ _ ⟨hd0, hd1⟩ (fun hHeld => ?_)
        clear hK K
        refine norm_ (a' := ?_) ?_ ?_
        rotate_left
        · show Act.put _ (some 22) _ = _
          simp only [Act.put, List.setIfInBounds_toArray, List.set_cons_zero, List.set_cons_succ, i64_w, i32_w]
          rfl
        refine one_ (i := 11) (N := some 28) #[true, true, true, true, true, true, true, true, true, true, true, true, false, false, false, false, false, false] rfl rfl (by kernel_rfl) (by decide) (fun K hK => ?_)
        refine goes_ Try.func52 (by kernel_rfl) rfl #[.slice (some ⟨ge, 0, none⟩) x.E.length ce, .int .i64 (i : Int)] (by rfl) rfl rfl (by simp only [List.map_toArray, List.map_cons, List.map_nil]; rfl) ?_
        with_reducible refine (dk_at ge x.E.length ce i _ HIE.out HCE.out HME.out).mono ?_
        rintro e w3 ⟨rfl, rfl⟩
        refine ⟨_, rfl, ?_⟩
        refine hK.out _ _ ⟨hd0, hd1⟩ (fun hHeld => ?_)
        clear hK K
        refine norm_ (a' := ?_) ?_ ?_
        rotate_left
        · show Act.put _ (some 28) _ = _
          simp only [Act.put, List.setIfInBounds_toArray, List.set_cons_zero, List.set_cons_succ, i64_w, i32_w]
          rfl
        refine one_ (i := 12) (N := some 29) #[true, true, true, true, true, true, true, true, true, true, true, true, true, false, false, false, false, false] rfl rfl (by kernel_rfl) (by decide) (fun K hK => ?_)
        refine goes_ Try.func51 (by kernel_rfl) rfl #[.slice (some ⟨gs, i * 64, none⟩) 64 (cs - i * 64), .slice (some ⟨ge, i * 64, none⟩) 64 (ce - i * 64)] (by rfl) rfl rfl (by simp only [List.map_toArray, List.map_cons, List.map_nil]; rfl) ?_
        with_reducible refine (HEQ.out _ (below_drew HB.out)).mono ?_
        rintro e w5 ⟨rfl, ⟨nd, rfl⟩⟩
        refine ⟨_, rfl, ?_⟩
        refine hK.out _ _ ⟨hd0, hd1⟩ (fun hHeld => ?_)
        clear hK K
        refine norm_ (a' := ?_) ?_ ?_
        rotate_left
        · show Act.put _ (some 29) _ = _
          simp only [Act.put, List.setIfInBounds_toArray, List.set_cons_zero, List.set_cons_succ, i64_w, i32_w]
          rfl
        refine pure_ (i := 13) (N := some 30) (v := ?_) (a' := ?_) #[true, true, true, true, true, true, true, true, true, true, true, true, true, true, false, false, false, false] rfl rfl (by kernel_rfl) (fun _ _ _ h => h) (Or.inl ⟨by rfl, ?_⟩) ?_ ?_
        rotate_left
        · intro w'
          go_simp
          with_reducible rfl
        rotate_left
        · simp only [Act.put, List.setIfInBounds_toArray, List.set_cons_zero, List.set_cons_succ, i64_w, i32_w]
          rfl
        refine pure_ (i := 14) (N := some 31) (v := undef) (a' := ?_) #[true, true, true, true, true, true, true, true, true, true, true, true, true, true, true, false, false, false] rfl rfl (by kernel_rfl) (fun _ _ _ h => h) (Or.inr ⟨by rfl, rfl⟩) ?_ ?_
        rotate_left
        · simp only [Act.put, List.setIfInBounds_toArray, List.set_cons_zero, List.set_cons_succ, i64_w, i32_w]
          rfl
        refine pure_ (i := 15) (N := some 32) (v := undef) (a' := ?_) #[true, true, true, true, true, true, true, true, true, true, true, true, true, true, true, true, false, false] rfl rfl (by kernel_rfl) (fun _ _ _ h => h) (Or.inr ⟨by rfl, rfl⟩) ?_ ?_
        rotate_left
        · simp only [Act.put, List.setIfInBounds_toArray, List.set_cons_zero, List.set_cons_succ, i64_w, i32_w]
          rfl
        refine pure_ (i := 16) (N := some 33) (v := undef) (a' := ?_) #[true, true, true, true, true, true, true, true, true, true, true, true, true, true, true, true, true, false] rfl rfl (by kernel_rfl) (fun _ _ _ h => h) (Or.inr ⟨by rfl, rfl⟩) ?_ ?_
        rotate_left
        · simp only [Act.put, List.setIfInBounds_toArray, List.set_cons_zero, List.set_cons_succ, i64_w, i32_w]
          rfl
        refine pure_ (i := 17) (N := some 34) (v := ?_) (a' := ?_) #[true, true, true, true, true, true, true, true, true, true, true, true, true, true, true, true, true, true] rfl rfl (by kernel_rfl) (fun _ _ _ h => h) (Or.inl ⟨by rfl, ?_⟩) ?_ ?_
        rotate_left
        · intro w'
          go_simp
          with_reducible rfl
        rotate_left
        · simp only [Act.put, List.setIfInBounds_toArray, List.set_cons_zero, List.set_cons_succ, i64_w, i32_w]
          rfl
        refine done_ (by kernel_rfl) ?_

        go_wp2
        go_roundw
        case rel => exact ⟨i + 1, P, cp, ps, bc, by omega, rfl, by go_num, HCP, HP, HBL, HC2, ⟨Kd.R_drewN HRB.out _⟩, ⟨pw_below_drewN HB.out _⟩⟩
        case measure => simp [intOf]; omega
      · have u1 : decide (sec x.S i = sec x.E i) = false := decide_eq_false q1
        rw [u1] at HEQ
        cases ps with
        | nil =>
          rw [if_pos (.inr rfl)] at hcr
          have HC2 : Aside0 (crashL x.S x.E (cnt - (i + 1)) (i + 1) bc [] = x.crash ps0) := ⟨by rw [show cnt - (i + 1) = m by omega]; exact hcr⟩
          clear hcr hm q1 u1 HCR
          go_upto_region 5 with (fail)
          refine start_ (n := 18) (S := fun w' => w'.cell? ⟨d, 0, none⟩ = some (.slice (some ⟨gs, 0, none⟩) x.S.length cs) ∧ w'.cell? ⟨d, 1, none⟩ = some (.slice (some ⟨ge, 0, none⟩) x.E.length ce)) (ds := []) #[false, false, false, false, false, false, false, false, false, false, false, false, false, false, false, false, false, false] (by kernel_rfl) rfl rfl ⟨hd0, hd1⟩ (fun hHeld => ?_)
          refine pure_ (i := 0) (N := some 17) (v := ?_) (a' := ?_) #[true, false, false, false, false, false, false, false, false, false, false, false, false, false, false, false, false, false] rfl rfl (by kernel_rfl) (fun _ _ _ h => h) (Or.inl ⟨by rfl, ?_⟩) ?_ ?_
          rotate_left
          · intro w'
            go_simp
            with_reducible rfl
          rotate_left
          · simp only [Act.put, List.setIfInBounds_toArray, List.set_cons_zero, List.set_cons_succ, i64_w, i32_w]
            rfl
          refine pure_ (i := 1) (N := some 18) (v := ?_) (a' := ?_) #[true, true, false, false, false, false, false, false, false, false, false, false, false, false, false, false, false, false] rfl rfl (by kernel_rfl) (fun _ _ _ h => h) (Or.inl ⟨by rfl, ?_⟩) ?_ ?_
          rotate_left
          · intro w'
            go_simp
            with_reducible rfl
          rotate_left
          · simp only [Act.put, List.setIfInBounds_toArray, List.set_cons_zero, List.set_cons_succ, i64_w, i32_w]
            rfl
          refine pure_ (i := 2) (N := some 19) (v := ?_) (a' := ?_) #[true, true, true, false, false, false, false, false, false, false, false, false, false, false, false, false, false, false] rfl rfl (by kernel_rfl) (fun _ _ _ h => h) (Or.inl ⟨by rfl, ?_⟩) ?_ ?_
          rotate_left
          · intro w'
            go_simp
            with_reducible rfl
          rotate_left
          · simp only [Act.put, List.setIfInBounds_toArray, List.set_cons_zero, List.set_cons_succ, i64_w, i32_w]
            rfl
          refine pure_ (i := 4) (N := some 21) (v := ?_) (a' := ?_) #[true, true, true, false, true, false, false, false, false, false, false, false, false, false, false, false, false, false] rfl rfl (by kernel_rfl) (fun _ _ _ h => h) (Or.inl ⟨by rfl, ?_⟩) ?_ ?_
          rotate_left
          · intro w'
            go_simp
            with_reducible rfl
          rotate_left
          · simp only [Act.put, List.setIfInBounds_toArray, List.set_cons_zero, List.set_cons_succ, i64_w, i32_w]
            rfl
          refine pure_ (i := 6) (N := some 23) (v := ?_) (a' := ?_) #[true, true, true, false, true, false, true, false, false, false, false, false, false, false, false, false, false, false] rfl rfl (by kernel_rfl) (fun _ _ _ h => h) (Or.inl ⟨by rfl, ?_⟩) ?_ ?_
          rotate_left
          · intro w'
            go_simp
            with_reducible rfl
          rotate_left
          · simp only [Act.put, List.setIfInBounds_toArray, List.set_cons_zero, List.set_cons_succ, i64_w, i32_w]
            rfl
          refine pure_ (i := 7) (N := some 24) (v := ?_) (a' := ?_) #[true, true, true, false, true, false, true, true, false, false, false, false, false, false, false, false, false, false] rfl rfl (by kernel_rfl) (fun _ _ _ h => h) (Or.inl ⟨by rfl, ?_⟩) ?_ ?_
          rotate_left
          · intro w'
            go_simp
            with_reducible rfl
          rotate_left
          · simp only [Act.put, List.setIfInBounds_toArray, List.set_cons_zero, List.set_cons_succ, i64_w, i32_w]
            rfl
          refine pure_ (i := 8) (N := some 25) (v := ?_) (a' := ?_) #[true, true, true, false, true, false, true, true, true, false, false, false, false, false, false, false, false, false] rfl rfl (by kernel_rfl) (fun _ _ _ h => h) (Or.inl ⟨by rfl, ?_⟩) ?_ ?_
          rotate_left
          · intro w'
            go_simp
            with_reducible rfl
          rotate_left
          · simp only [Act.put, List.setIfInBounds_toArray, List.set_cons_zero, List.set_cons_succ, i64_w, i32_w]
            rfl
          refine pure_ (i := 10) (N := some 27) (v := ?_) (a' := ?_) #[true, true, true, false, true, false, true, true, true, false, true, false, false, false, false, false, false, false] rfl rfl (by kernel_rfl) (fun _ _ _ h => h) (Or.inl ⟨by rfl, ?_⟩) ?_ ?_
          rotate_left
          · intro w'
            go_simp
            with_reducible rfl
          rotate_left
          · simp only [Act.put, List.setIfInBounds_toArray, List.set_cons_zero, List.set_cons_succ, i64_w, i32_w]
            rfl
          refine take_ (i := 3) (N := some 20) (v := ?_) (a' := ?_) #[true, true, true, true, true, false, true, true, true, false, true, false, false, false, false, false, false, false] rfl rfl (by kernel_rfl) (fun _ _ _ h => h) (Or.inl ⟨by rfl, ?_⟩) hHeld ?_ ?_
          rotate_left
          · rintro w' ⟨s0, s1⟩
            go_simp
            with_reducible rfl
          rotate_left
          · simp only [Act.put, List.setIfInBounds_toArray, List.set_cons_zero, List.set_cons_succ, i64_w, i32_w]
            rfl
          refine take_ (i := 9) (N := some 26) (v := ?_) (a' := ?_) #[true, true, true, true, true, false, true, true, true, true, true, false, false, false, false, false, false, false] rfl rfl (by kernel_rfl) (fun _ _ _ h => h) (Or.inl ⟨by rfl, ?_⟩) hHeld ?_ ?_
          rotate_left
          · rintro w' ⟨s0, s1⟩
            go_simp
            with_reducible rfl
          rotate_left
          · simp only [Act.put, List.setIfInBounds_toArray, List.set_cons_zero, List.set_cons_succ, i64_w, i32_w]
            rfl
          refine one_ (i := 5) (N := some 22) #[true, true, true, true, true, true, true, true, true, true, true, false, false, false, false, false, false, false] rfl rfl (by kernel_rfl) (by decide) (fun K hK => ?_)
          refine goes_ Try.func52 (by kernel_rfl) rfl #[.slice (some ⟨gs, 0, none⟩) x.S.length cs, .int .i64 (i : Int)] (by rfl) rfl rfl (by simp only [List.map_toArray, List.map_cons, List.map_nil]; rfl) ?_
          with_reducible refine (dk_at gs x.S.length cs i _ HIS.out HCS.out HMS.out).mono ?_
          rintro e w3 ⟨rfl, rfl⟩
          refine ⟨_, rfl, ?_⟩
          refine hK.out _ _ ⟨hd0, hd1⟩ (fun hHeld => ?_)
          clear hK K
          refine norm_ (a' := ?_) ?_ ?_
          rotate_left
          · show Act.put _ (some 22) _ = _
            simp only [Act.put, List.setIfInBounds_toArray, List.set_cons_zero, List.set_cons_succ, i64_w, i32_w]
            rfl
          refine one_ (i := 11) (N := some 28) #[true, true, true, true, true, true, true, true, true, true, true, true, false, false, false, false, false, false] rfl rfl (by kernel_rfl) (by decide) (fun K hK => ?_)
          refine goes_ Try.func52 (by kernel_rfl) rfl #[.slice (some ⟨ge, 0, none⟩) x.E.length ce, .int .i64 (i : Int)] (by rfl) rfl rfl (by simp only [List.map_toArray, List.map_cons, List.map_nil]; rfl) ?_
          with_reducible refine (dk_at ge x.E.length ce i _ HIE.out HCE.out HME.out).mono ?_
          rintro e w3 ⟨rfl, rfl⟩
          refine ⟨_, rfl, ?_⟩
          refine hK.out _ _ ⟨hd0, hd1⟩ (fun hHeld => ?_)
          clear hK K
          refine norm_ (a' := ?_) ?_ ?_
          rotate_left
          · show Act.put _ (some 28) _ = _
            simp only [Act.put, List.setIfInBounds_toArray, List.set_cons_zero, List.set_cons_succ, i64_w, i32_w]
            rfl
          refine one_ (i := 12) (N := some 29) #[true, true, true, true, true, true, true, true, true, true, true, true, true, false, false, false, false, false] rfl rfl (by kernel_rfl) (by decide) (fun K hK => ?_)
          refine goes_ Try.func51 (by kernel_rfl) rfl #[.slice (some ⟨gs, i * 64, none⟩) 64 (cs - i * 64), .slice (some ⟨ge, i * 64, none⟩) 64 (ce - i * 64)] (by rfl) rfl rfl (by simp only [List.map_toArray, List.map_cons, List.map_nil]; rfl) ?_
          with_reducible refine (HEQ.out _ (below_drew HB.out)).mono ?_
          rintro e w5 ⟨rfl, ⟨nd, rfl⟩⟩
          refine ⟨_, rfl, ?_⟩
          refine hK.out _ _ ⟨hd0, hd1⟩ (fun hHeld => ?_)
          clear hK K
          refine norm_ (a' := ?_) ?_ ?_
          rotate_left
          · show Act.put _ (some 29) _ = _
            simp only [Act.put, List.setIfInBounds_toArray, List.set_cons_zero, List.set_cons_succ, i64_w, i32_w]
            rfl
          refine pure_ (i := 13) (N := some 30) (v := ?_) (a' := ?_) #[true, true, true, true, true, true, true, true, true, true, true, true, true, true, false, false, false, false] rfl rfl (by kernel_rfl) (fun _ _ _ h => h) (Or.inl ⟨by rfl, ?_⟩) ?_ ?_
          rotate_left
          · intro w'
            go_simp
            with_reducible rfl
          rotate_left
          · simp only [Act.put, List.setIfInBounds_toArray, List.set_cons_zero, List.set_cons_succ, i64_w, i32_w]
            rfl
          refine pure_ (i := 14) (N := some 31) (v := ?_) (a' := ?_) #[true, true, true, true, true, true, true, true, true, true, true, true, true, true, true, false, false, false] rfl rfl (by kernel_rfl) (fun _ _ _ h => h) (Or.inl ⟨by rfl, ?_⟩) ?_ ?_
          rotate_left
          · intro w'
            go_simp
            with_reducible rfl
          rotate_left
          · simp only [Act.put, List.setIfInBounds_toArray, List.set_cons_zero, List.set_cons_succ, i64_w, i32_w]
            rfl
          refine pure_ (i := 15) (N := some 32) (v := ?_) (a' := ?_) #[true, true, true, true, true, true, true, true, true, true, true, true, true, true, true, true, false, false] rfl rfl (by kernel_rfl) (fun _ _ _ h => h) (Or.inl ⟨by rfl, ?_⟩) ?_ ?_
          rotate_left
          · intro w'
            go_simp
            with_reducible rfl
          rotate_left
          · simp only [Act.put, List.setIfInBounds_toArray, List.set_cons_zero, List.set_cons_succ, i64_w, i32_w]
            rfl
          refine pure_ (i := 16) (N := some 33) (v := ?_) (a' := ?_) #[true, true, true, true, true, true, true, true, true, true, true, true, true, true, true, true, true, false] rfl rfl (by kernel_rfl) (fun _ _ _ h => h) (Or.inl ⟨by rfl, ?_⟩) ?_ ?_
          rotate_left
          · intro w'
            go_simp
            with_reducible rfl
          rotate_left
          · simp only [Act.put, List.setIfInBounds_toArray, List.set_cons_zero, List.set_cons_succ, i64_w, i32_w]
            rfl
          refine pure_ (i := 17) (N := some 34) (v := ?_) (a' := ?_) #[true, true, true, true, true, true, true, true, true, true, true, true, true, true, true, true, true, true] rfl rfl (by kernel_rfl) (fun _ _ _ h => h) (Or.inl ⟨by rfl, ?_⟩) ?_ ?_
          rotate_left
          · intro w'
            go_simp
            with_reducible rfl
          rotate_left
          · simp only [Act.put, List.setIfInBounds_toArray, List.set_cons_zero, List.set_cons_succ, i64_w, i32_w]
            rfl
          refine done_ (by kernel_rfl) ?_

          go_wp2
          go_roundw
          case rel => exact ⟨i + 1, P, cp, [], bc, by omega, rfl, by go_num, HCP, HP, HBL, HC2, ⟨Kd.R_drewN HRB.out _⟩, ⟨pw_below_drewN HB.out _⟩⟩
          case measure => simp [intOf]; omega
        | cons p ps =>
          rw [if_neg (by rintro (h | h); exact q1 h; cases h)] at hcr
          obtain ⟨ad, rfl, hcp0⟩ := Kd.at_int HP.out 0 (by decide) (by rw [List.length_cons]; omega)
          have hcp : w.cell? ad = some (.int .i64 p) := by
            have : ad.add (Int.toNat 0) = ad := by unfold Addr.add; simp
            rw [this] at hcp0
            exact hcp0
          have hpx : wr.cell? ad = some (.int .i64 p) := (HB.out.cell (World.block_lt_of_cell? _ _ hcp)).trans hcp
          have hinf : (Try.prog.info? 3).map (fun i => i.size) = some 1 := by kernel_rfl
          obtain ⟨i0, hi0, hz0⟩ := Option.map_eq_some_iff.1 hinf
          obtain ⟨P', hcut0, hP'⟩ := cut_C (P := Try.prog) 33 3 .i64 Try.underlying33 hi0 hz0 (some ad) (ps.length + 1) cp 1 (by omega)
          have hcut : ∀ W : World, (Instr.slice 33 (.slice (some ad) (ps.length + 1) cp) (some (.int .i64 1)) none none).run Try.prog W = .ok (.slice P' ps.length (cp - 1)) W := fun W => by have := hcut0 W; rwa [Nat.add_sub_cancel] at this
          have HP2 : Aside0 ((Kd.int .i64).C w P' ps.length ps) := ⟨by have := hP' w .i64 (p :: ps) HCP.out HP.out; rwa [Nat.add_sub_cancel] at this⟩
          have HCP2 : Aside0 (ps.length ≤ cp - 1) := ⟨by have := HCP.out; rw [List.length_cons] at this; omega⟩
          have hpm2 : ps.length + 1 ≤ 9223372036854775807 := hpm
          clear hinf hi0 hz0 hcut0 hP' hcp hcp0 hpm
          by_cases e2 : p.tmod 2 = 0
          · rw [if_pos (by exact e2)] at hcr
            have HC2 : Aside0 (crashL x.S x.E (cnt - (i + 1)) (i + 1) bc ps = x.crash ps0) := ⟨by rw [show cnt - (i + 1) = m by omega]; exact hcr⟩
            have t2 : (p.tmod 2 != 0) = false := by rw [e2]; rfl
            have t2' : (p.tmod 2 == 0) = true := by rw [e2]; rfl
            clear hcr hm q1 u1 HCR e2
            go_upto_region 5 with (fail)
            refine start_ (n := 18) (S := fun w' => w'.cell? ⟨d, 0, none⟩ = some (.slice (some ⟨gs, 0, none⟩) x.S.length cs) ∧ w'.cell? ⟨d, 1, none⟩ = some (.slice (some ⟨ge, 0, none⟩) x.E.length ce)) (ds := []) #[false, false, false, false, false, false, false, false, false, false, false, false, false, false, false, false, false, false] (by kernel_rfl) rfl rfl ⟨hd0, hd1⟩ (fun hHeld => ?_)
            refine pure_ (i := 0) (N := some 17) (v := ?_) (a' := ?_) #[true, false, false, false, false, false, false, false, false, false, false, false, false, false, false, false, false, false] rfl rfl (by kernel_rfl) (fun _ _ _ h => h) (Or.inl ⟨by rfl, ?_⟩) ?_ ?_
            rotate_left
            · intro w'
              go_simp
              with_reducible rfl
            rotate_left
            · simp only [Act.put, List.setIfInBounds_toArray, List.set_cons_zero, List.set_cons_succ, i64_w, i32_w]
              rfl
            refine pure_ (i := 1) (N := some 18) (v := ?_) (a' := ?_) #[true, true, false, false, false, false, false, false, false, false, false, false, false, false, false, false, false, false] rfl rfl (by kernel_rfl) (fun _ _ _ h => h) (Or.inl ⟨by rfl, ?_⟩) ?_ ?_
            rotate_left
            · intro w'
              go_simp
              with_reducible rfl
            rotate_left
            · simp only [Act.put, List.setIfInBounds_toArray, List.set_cons_zero, List.set_cons_succ, i64_w, i32_w]
              rfl
            refine pure_ (i := 2) (N := some 19) (v := ?_) (a' := ?_) #[true, true, true, false, false, false, false, false, false, false, false, false, false, false, false, false, false, false] rfl rfl (by kernel_rfl) (fun _ _ _ h => h) (Or.inl ⟨by rfl, ?_⟩) ?_ ?_
            rotate_left
            · intro w'
              go_simp
              with_reducible rfl
            rotate_left
            · simp only [Act.put, List.setIfInBounds_toArray, List.set_cons_zero, List.set_cons_succ, i64_w, i32_w]
              rfl
            refine pure_ (i := 4) (N := some 21) (v := ?_) (a' := ?_) #[true, true, true, false, true, false, false, false, false, false, false, false, false, false, false, false, false, false] rfl rfl (by kernel_rfl) (fun _ _ _ h => h) (Or.inl ⟨by rfl, ?_⟩) ?_ ?_
            rotate_left
            · intro w'
              go_simp
              with_reducible rfl
            rotate_left
            · simp only [Act.put, List.setIfInBounds_toArray, List.set_cons_zero, List.set_cons_succ, i64_w, i32_w]
              rfl
            refine pure_ (i := 6) (N := some 23) (v := ?_) (a' := ?_) #[true, true, true, false, true, false, true, false, false, false, false, false, false, false, false, false, false, false] rfl rfl (by kernel_rfl) (fun _ _ _ h => h) (Or.inl ⟨by rfl, ?_⟩) ?_ ?_
            rotate_left
            · intro w'
              go_simp
              with_reducible rfl
            rotate_left
            · simp only [Act.put, List.setIfInBounds_toArray, List.set_cons_zero, List.set_cons_succ, i64_w, i32_w]
              rfl
            refine pure_ (i := 7) (N := some 24) (v := ?_) (a' := ?_) #[true, true, true, false, true, false, true, true, false, false, false, false, false, false, false, false, false, false] rfl rfl (by kernel_rfl) (fun _ _ _ h => h) (Or.inl ⟨by rfl, ?_⟩) ?_ ?_
            rotate_left
            · intro w'
              go_simp
              with_reducible rfl
            rotate_left
            · simp only [Act.put, List.setIfInBounds_toArray, List.set_cons_zero, List.set_cons_succ, i64_w, i32_w]
              rfl
            refine pure_ (i := 8) (N := some 25) (v := ?_) (a' := ?_) #[true, true, true, false, true, false, true, true, true, false, false, false, false, false, false, false, false, false] rfl rfl (by kernel_rfl) (fun _ _ _ h => h) (Or.inl ⟨by rfl, ?_⟩) ?_ ?_
            rotate_left
            · intro w'
              go_simp
              with_reducible rfl
            rotate_left
            · simp only [Act.put, List.setIfInBounds_toArray, List.set_cons_zero, List.set_cons_succ, i64_w, i32_w]
              rfl
            refine pure_ (i := 10) (N := some 27) (v := ?_) (a' := ?_) #[true, true, true, false, true, false, true, true, true, false, true, false, false, false, false, false, false, false] rfl rfl (by kernel_rfl) (fun _ _ _ h => h) (Or.inl ⟨by rfl, ?_⟩) ?_ ?_
            rotate_left
            · intro w'
              go_simp
              with_reducible rfl
            rotate_left
            · simp only [Act.put, List.setIfInBounds_toArray, List.set_cons_zero, List.set_cons_succ, i64_w, i32_w]
              rfl
            refine take_ (i := 3) (N := some 20) (v := ?_) (a' := ?_) #[true, true, true, true, true, false, true, true, true, false, true, false, false, false, false, false, false, false] rfl rfl (by kernel_rfl) (fun _ _ _ h => h) (Or.inl ⟨by rfl, ?_⟩) hHeld ?_ ?_
            rotate_left
            · rintro w' ⟨s0, s1⟩
              go_simp
              with_reducible rfl
            rotate_left
            · simp only [Act.put, List.setIfInBounds_toArray, List.set_cons_zero, List.set_cons_succ, i64_w, i32_w]
              rfl
            refine take_ (i := 9) (N := some 26) (v := ?_) (a' := ?_) #[true, true, true, true, true, false, true, true, true, true, true, false, false, false, false, false, false, false] rfl rfl (by kernel_rfl) (fun _ _ _ h => h) (Or.inl ⟨by rfl, ?_⟩) hHeld ?_ ?_
            rotate_left
            · rintro w' ⟨s0, s1⟩
              go_simp
              with_reducible rfl
            rotate_left
            · simp only [Act.put, List.setIfInBounds_toArray, List.set_cons_zero, List.set_cons_succ, i64_w, i32_w]
              rfl
            refine one_ (i := 5) (N := some 22) #[true, true, true, true, true, true, true, true, true, true, true, false, false, false, false, false, false, false] rfl rfl (by kernel_rfl) (by decide) (fun K hK => ?_)
            refine goes_ Try.func52 (by kernel_rfl) rfl #[.slice (some ⟨gs, 0, none⟩) x.S.length cs, .int .i64 (i : Int)] (by rfl) rfl rfl (by simp only [List.map_toArray, List.map_cons, List.map_nil]; rfl) ?_
            with_reducible refine (dk_at gs x.S.length cs i _ HIS.out HCS.out HMS.out).mono ?_
            rintro e w3 ⟨rfl, rfl⟩
            refine ⟨_, rfl, ?_⟩
            refine hK.out _ _ ⟨hd0, hd1⟩ (fun hHeld => ?_)
            clear hK K
            refine norm_ (a' := ?_) ?_ ?_
            rotate_left
            · show Act.put _ (some 22) _ = _
              simp only [Act.put, List.setIfInBounds_toArray, List.set_cons_zero, List.set_cons_succ, i64_w, i32_w]
              rfl
            refine one_ (i := 11) (N := some 28) #[true, true, true, true, true, true, true, true, true, true, true, true, false, false, false, false, false, false] rfl rfl (by kernel_rfl) (by decide) (fun K hK => ?_)
            refine goes_ Try.func52 (by kernel_rfl) rfl #[.slice (some ⟨ge, 0, none⟩) x.E.length ce, .int .i64 (i : Int)] (by rfl) rfl rfl (by simp only [List.map_toArray, List.map_cons, List.map_nil]; rfl) ?_
            with_reducible refine (dk_at ge x.E.length ce i _ HIE.out HCE.out HME.out).mono ?_
            rintro e w3 ⟨rfl, rfl⟩
            refine ⟨_, rfl, ?_⟩
            refine hK.out _ _ ⟨hd0, hd1⟩ (fun hHeld => ?_)
            clear hK K
            refine norm_ (a' := ?_) ?_ ?_
            rotate_left
            · show Act.put _ (some 28) _ = _
              simp only [Act.put, List.setIfInBounds_toArray, List.set_cons_zero, List.set_cons_succ, i64_w, i32_w]
              rfl
            refine one_ (i := 12) (N := some 29) #[true, true, true, true, true, true, true, true, true, true, true, true, true, false, false, false, false, false] rfl rfl (by kernel_rfl) (by decide) (fun K hK => ?_)
            refine goes_ Try.func51 (by kernel_rfl) rfl #[.slice (some ⟨gs, i * 64, none⟩) 64 (cs - i * 64), .slice (some ⟨ge, i * 64, none⟩) 64 (ce - i * 64)] (by rfl) rfl rfl (by simp only [List.map_toArray, List.map_cons, List.map_nil]; rfl) ?_
            with_reducible refine (HEQ.out _ (below_drew HB.out)).mono ?_
            rintro e w5 ⟨rfl, ⟨nd, rfl⟩⟩
            refine ⟨_, rfl, ?_⟩
            refine hK.out _ _ ⟨hd0, hd1⟩ (fun hHeld => ?_)
            clear hK K
            refine norm_ (a' := ?_) ?_ ?_
            rotate_left
            · show Act.put _ (some 29) _ = _
              simp only [Act.put, List.setIfInBounds_toArray, List.set_cons_zero, List.set_cons_succ, i64_w, i32_w]
              rfl
            refine pure_ (i := 13) (N := some 30) (v := ?_) (a' := ?_) #[true, true, true, true, true, true, true, true, true, true, true, true, true, true, false, false, false, false] rfl rfl (by kernel_rfl) (fun _ _ _ h => h) (Or.inl ⟨by rfl, ?_⟩) ?_ ?_
            rotate_left
            · intro w'
              go_simp
              with_reducible rfl
            rotate_left
            · simp only [Act.put, List.setIfInBounds_toArray, List.set_cons_zero, List.set_cons_succ, i64_w, i32_w]
              rfl
            refine pure_ (i := 14) (N := some 31) (v := ?_) (a' := ?_) #[true, true, true, true, true, true, true, true, true, true, true, true, true, true, true, false, false, false] rfl rfl (by kernel_rfl) (fun _ _ _ h => h) (Or.inl ⟨by rfl, ?_⟩) ?_ ?_
            rotate_left
            · intro w'
              go_simp
              with_reducible rfl
            rotate_left
            · simp only [Act.put, List.setIfInBounds_toArray, List.set_cons_zero, List.set_cons_succ, i64_w, i32_w]
              rfl
            refine pure_ (i := 15) (N := some 32) (v := ?_) (a' := ?_) #[true, true, true, true, true, true, true, true, true, true, true, true, true, true, true, true, false, false] rfl rfl (by kernel_rfl) (fun _ _ _ h => h) (Or.inl ⟨by rfl, ?_⟩) ?_ ?_
            rotate_left
            · intro w'
              go_simp
              with_reducible rfl
            rotate_left
            · simp only [Act.put, List.setIfInBounds_toArray, List.set_cons_zero, List.set_cons_succ, i64_w, i32_w]
              rfl
            refine pure_ (i := 16) (N := some 33) (v := ?_) (a' := ?_) #[true, true, true, true, true, true, true, true, true, true, true, true, true, true, true, true, true, false] rfl rfl (by kernel_rfl) (fun _ _ _ h => h) (Or.inl ⟨by rfl, ?_⟩) ?_ ?_
            rotate_left
            · intro w'
              go_simp
              with_reducible rfl
            rotate_left
            · simp only [Act.put, List.setIfInBounds_toArray, List.set_cons_zero, List.set_cons_succ, i64_w, i32_w]
              rfl
            refine pure_ (i := 17) (N := some 34) (v := ?_) (a' := ?_) #[true, true, true, true, true, true, true, true, true, true, true, true, true, true, true, true, true, true] rfl rfl (by kernel_rfl) (fun _ _ _ h => h) (Or.inl ⟨by rfl, ?_⟩) ?_ ?_
            rotate_left
            · intro w'
              go_simp
              with_reducible rfl
            rotate_left
            · simp only [Act.put, List.setIfInBounds_toArray, List.set_cons_zero, List.set_cons_succ, i64_w, i32_w]
              rfl
            refine done_ (by kernel_rfl) ?_

            go_wp2
            go_roundw
            case rel => exact ⟨i + 1, P', cp - 1, ps, bc, by omega, rfl, by go_num, HCP2, HP2, HBL, HC2, ⟨Kd.R_drewN HRB.out _⟩, ⟨pw_below_drewN HB.out _⟩⟩
            case measure => simp [intOf]; omega
          · rw [if_neg (by exact e2)] at hcr
            have HC2 : Aside0 (crashL x.S x.E (cnt - (i + 1)) (i + 1) (splice bc (i * 64) (sec x.E i)) ps = x.crash ps0) := ⟨by rw [show cnt - (i + 1) = m by omega]; exact hcr⟩
            have t2 : (p.tmod 2 != 0) = true := by simpa using e2
            have t2' : (p.tmod 2 == 0) = false := by simpa using e2
            have HL2 : Aside0 ((splice bc (i * 64) (sec x.E i)).length = x.S.length) := ⟨by rw [length_splice _ _ _ (by rw [length_sec _ _ HIE.out, HBL.out]; exact HIS.out), HBL.out]⟩
            have HSE0 : Aside0 (∀ W, Below w.heap.size w W → (Kd.int .u8).C W (some ⟨ge, i * 64, none⟩) 64 (sec x.E i)) := ⟨fun W hW => Kd.C_below (C_sub HEC.out.2.2 HIE.out) hW⟩
            clear hcr hm q1 u1 HCR e2
            go_upto_region 5 with (fail)
            refine start_ (n := 18) (S := fun w' => w'.cell? ⟨d, 0, none⟩ = some (.slice (some ⟨gs, 0, none⟩) x.S.length cs) ∧ w'.cell? ⟨d, 1, none⟩ = some (.slice (some ⟨ge, 0, none⟩) x.E.length ce)) (ds := []) #[false, false, false, false, false, false, false, false, false, false, false, false, false, false, false, false, false, false] (by kernel_rfl) rfl rfl ⟨hd0, hd1⟩ (fun hHeld => ?_)
            refine pure_ (i := 0) (N := some 17) (v := ?_) (a' := ?_) #[true, false, false, false, false, false, false, false, false, false, false, false, false, false, false, false, false, false] rfl rfl (by kernel_rfl) (fun _ _ _ h => h) (Or.inl ⟨by rfl, ?_⟩) ?_ ?_
            rotate_left
            · intro w'
              go_simp
              with_reducible rfl
            rotate_left
            · simp only [Act.put, List.setIfInBounds_toArray, List.set_cons_zero, List.set_cons_succ, i64_w, i32_w]
              rfl
            refine pure_ (i := 1) (N := some 18) (v := ?_) (a' := ?_) #[true, true, false, false, false, false, false, false, false, false, false, false, false, false, false, false, false, false] rfl rfl (by kernel_rfl) (fun _ _ _ h => h) (Or.inl ⟨by rfl, ?_⟩) ?_ ?_
            rotate_left
            · intro w'
              go_simp
              with_reducible rfl
            rotate_left
            · simp only [Act.put, List.setIfInBounds_toArray, List.set_cons_zero, List.set_cons_succ, i64_w, i32_w]
              rfl
            refine pure_ (i := 2) (N := some 19) (v := ?_) (a' := ?_) #[true, true, true, false, false, false, false, false, false, false, false, false, false, false, false, false, false, false] rfl rfl (by kernel_rfl) (fun _ _ _ h => h) (Or.inl ⟨by rfl, ?_⟩) ?_ ?_
            rotate_left
            · intro w'
              go_simp
              with_reducible rfl
            rotate_left
            · simp only [Act.put, List.setIfInBounds_toArray, List.set_cons_zero, List.set_cons_succ, i64_w, i32_w]
              rfl
            refine pure_ (i := 4) (N := some 21) (v := ?_) (a' := ?_) #[true, true, true, false, true, false, false, false, false, false, false, false, false, false, false, false, false, false] rfl rfl (by kernel_rfl) (fun _ _ _ h => h) (Or.inl ⟨by rfl, ?_⟩) ?_ ?_
            rotate_left
            · intro w'
              go_simp
              with_reducible rfl
            rotate_left
            · simp only [Act.put, List.setIfInBounds_toArray, List.set_cons_zero, List.set_cons_succ, i64_w, i32_w]
              rfl
            refine pure_ (i := 6) (N := some 23) (v := ?_) (a' := ?_) #[true, true, true, false, true, false, true, false, false, false, false, false, false, false, false, false, false, false] rfl rfl (by kernel_rfl) (fun _ _ _ h => h) (Or.inl ⟨by rfl, ?_⟩) ?_ ?_
            rotate_left
            · intro w'
              go_simp
              with_reducible rfl
            rotate_left
            · simp only [Act.put, List.setIfInBounds_toArray, List.set_cons_zero, List.set_cons_succ, i64_w, i32_w]
              rfl
            refine pure_ (i := 7) (N := some 24) (v := ?_) (a' := ?_) #[true, true, true, false, true, false, true, true, false, false, false, false, false, false, false, false, false, false] rfl rfl (by kernel_rfl) (fun _ _ _ h => h) (Or.inl ⟨by rfl, ?_⟩) ?_ ?_
            rotate_left
            · intro w'
              go_simp
              with_reducible rfl
            rotate_left
            · simp only [Act.put, List.setIfInBounds_toArray, List.set_cons_zero, List.set_cons_succ, i64_w, i32_w]
              rfl
            refine pure_ (i := 8) (N := some 25) (v := ?_) (a' := ?_) #[true, true, true, false, true, false, true, true, true, false, false, false, false, false, false, false, false, false] rfl rfl (by kernel_rfl) (fun _ _ _ h => h) (Or.inl ⟨by rfl, ?_⟩) ?_ ?_
            rotate_left
            · intro w'
              go_simp
              with_reducible rfl
            rotate_left
            · simp only [Act.put, List.setIfInBounds_toArray, List.set_cons_zero, List.set_cons_succ, i64_w, i32_w]
              rfl
            refine pure_ (i := 10) (N := some 27) (v := ?_) (a' := ?_) #[true, true, true, false, true, false, true, true, true, false, true, false, false, false, false, false, false, false] rfl rfl (by kernel_rfl) (fun _ _ _ h => h) (Or.inl ⟨by rfl, ?_⟩) ?_ ?_
            rotate_left
            · intro w'
              go_simp
              with_reducible rfl
            rotate_left
            · simp only [Act.put, List.setIfInBounds_toArray, List.set_cons_zero, List.set_cons_succ, i64_w, i32_w]
              rfl
            refine take_ (i := 3) (N := some 20) (v := ?_) (a' := ?_) #[true, true, true, true, true, false, true, true, true, false, true, false, false, false, false, false, false, false] rfl rfl (by kernel_rfl) (fun _ _ _ h => h) (Or.inl ⟨by rfl, ?_⟩) hHeld ?_ ?_
            rotate_left
            · rintro w' ⟨s0, s1⟩
              go_simp
              with_reducible rfl
            rotate_left
            · simp only [Act.put, List.setIfInBounds_toArray, List.set_cons_zero, List.set_cons_succ, i64_w, i32_w]
              rfl
            refine take_ (i := 9) (N := some 26) (v := ?_) (a' := ?_) #[true, true, true, true, true, false, true, true, true, true, true, false, false, false, false, false, false, false] rfl rfl (by kernel_rfl) (fun _ _ _ h => h) (Or.inl ⟨by rfl, ?_⟩) hHeld ?_ ?_
            rotate_left
            · rintro w' ⟨s0, s1⟩
              go_simp
              with_reducible rfl
            rotate_left
            · simp only [Act.put, List.setIfInBounds_toArray, List.set_cons_zero, List.set_cons_succ, i64_w, i32_w]
              rfl
            refine one_ (i := 5) (N := some 22) #[true, true, true, true, true, true, true, true, true, true, true, false, false, false, false, false, false, false] rfl rfl (by kernel_rfl) (by decide) (fun K hK => ?_)
            refine goes_ Try.func52 (by kernel_rfl) rfl #[.slice (some ⟨gs, 0, none⟩) x.S.length cs, .int .i64 (i : Int)] (by rfl) rfl rfl (by simp only [List.map_toArray, List.map_cons, List.map_nil]; rfl) ?_
            with_reducible refine (dk_at gs x.S.length cs i _ HIS.out HCS.out HMS.out).mono ?_
            rintro e w3 ⟨rfl, rfl⟩
            refine ⟨_, rfl, ?_⟩
            refine hK.out _ _ ⟨hd0, hd1⟩ (fun hHeld => ?_)
            clear hK K
            refine norm_ (a' := ?_) ?_ ?_
            rotate_left
            · show Act.put _ (some 22) _ = _
              simp only [Act.put, List.setIfInBounds_toArray, List.set_cons_zero, List.set_cons_succ, i64_w, i32_w]
              rfl
            refine one_ (i := 11) (N := some 28) #[true, true, true, true, true, true, true, true, true, true, true, true, false, false, false, false, false, false] rfl rfl (by kernel_rfl) (by decide) (fun K hK => ?_)
            refine goes_ Try.func52 (by kernel_rfl) rfl #[.slice (some ⟨ge, 0, none⟩) x.E.length ce, .int .i64 (i : Int)] (by rfl) rfl rfl (by simp only [List.map_toArray, List.map_cons, List.map_nil]; rfl) ?_
            with_reducible refine (dk_at ge x.E.length ce i _ HIE.out HCE.out HME.out).mono ?_
            rintro e w3 ⟨rfl, rfl⟩
            refine ⟨_, rfl, ?_⟩
            refine hK.out _ _ ⟨hd0, hd1⟩ (fun hHeld => ?_)
            clear hK K
            refine norm_ (a' := ?_) ?_ ?_
            rotate_left
            · show Act.put _ (some 28) _ = _
              simp only [Act.put, List.setIfInBounds_toArray, List.set_cons_zero, List.set_cons_succ, i64_w, i32_w]
              rfl
            refine one_ (i := 12) (N := some 29) #[true, true, true, true, true, true, true, true, true, true, true, true, true, false, false, false, false, false] rfl rfl (by kernel_rfl) (by decide) (fun K hK => ?_)
            refine goes_ Try.func51 (by kernel_rfl) rfl #[.slice (some ⟨gs, i * 64, none⟩) 64 (cs - i * 64), .slice (some ⟨ge, i * 64, none⟩) 64 (ce - i * 64)] (by rfl) rfl rfl (by simp only [List.map_toArray, List.map_cons, List.map_nil]; rfl) ?_
            with_reducible refine (HEQ.out _ (below_drew HB.out)).mono ?_
            rintro e w5 ⟨rfl, ⟨nd, rfl⟩⟩
            refine ⟨_, rfl, ?_⟩
            refine hK.out _ _ ⟨hd0, hd1⟩ (fun hHeld => ?_)
            clear hK K
            refine norm_ (a' := ?_) ?_ ?_
            rotate_left
            · show Act.put _ (some 29) _ = _
              simp only [Act.put, List.setIfInBounds_toArray, List.set_cons_zero, List.set_cons_succ, i64_w, i32_w]
              rfl
            refine pure_ (i := 13) (N := some 30) (v := ?_) (a' := ?_) #[true, true, true, true, true, true, true, true, true, true, true, true, true, true, false, false, false, false] rfl rfl (by kernel_rfl) (fun _ _ _ h => h) (Or.inl ⟨by rfl, ?_⟩) ?_ ?_
            rotate_left
            · intro w'
              go_simp
              with_reducible rfl
            rotate_left
            · simp only [Act.put, List.setIfInBounds_toArray, List.set_cons_zero, List.set_cons_succ, i64_w, i32_w]
              rfl
            refine pure_ (i := 14) (N := some 31) (v := ?_) (a' := ?_) #[true, true, true, true, true, true, true, true, true, true, true, true, true, true, true, false, false, false] rfl rfl (by kernel_rfl) (fun _ _ _ h => h) (Or.inl ⟨by rfl, ?_⟩) ?_ ?_
            rotate_left
            · intro w'
              go_simp
              with_reducible rfl
            rotate_left
            · simp only [Act.put, List.setIfInBounds_toArray, List.set_cons_zero, List.set_cons_succ, i64_w, i32_w]
              rfl
            refine pure_ (i := 15) (N := some 32) (v := ?_) (a' := ?_) #[true, true, true, true, true, true, true, true, true, true, true, true, true, true, true, true, false, false] rfl rfl (by kernel_rfl) (fun _ _ _ h => h) (Or.inl ⟨by rfl, ?_⟩) ?_ ?_
            rotate_left
            · intro w'
              go_simp
              with_reducible rfl
            rotate_left
            · simp only [Act.put, List.setIfInBounds_toArray, List.set_cons_zero, List.set_cons_succ, i64_w, i32_w]
              rfl
            refine pure_ (i := 16) (N := some 33) (v := ?_) (a' := ?_) #[true, true, true, true, true, true, true, true, true, true, true, true, true, true, true, true, true, false] rfl rfl (by kernel_rfl) (fun _ _ _ h => h) (Or.inl ⟨by rfl, ?_⟩) ?_ ?_
            rotate_left
            · intro w'
              go_simp
              with_reducible rfl
            rotate_left
            · simp only [Act.put, List.setIfInBounds_toArray, List.set_cons_zero, List.set_cons_succ, i64_w, i32_w]
              rfl
            refine pure_ (i := 17) (N := some 34) (v := ?_) (a' := ?_) #[true, true, true, true, true, true, true, true, true, true, true, true, true, true, true, true, true, true] rfl rfl (by kernel_rfl) (fun _ _ _ h => h) (Or.inl ⟨by rfl, ?_⟩) ?_ ?_
            rotate_left
            · intro w'
              go_simp
              with_reducible rfl
            rotate_left
            · simp only [Act.put, List.setIfInBounds_toArray, List.set_cons_zero, List.set_cons_succ, i64_w, i32_w]
              rfl
            refine done_ (by kernel_rfl) ?_

            go_upto_region 7 with (fail)
            have HRX := Aside0.mk (Kd.R_drewN HRB.out (1 + nd + 1))
            have HBX := Aside0.mk (pw_below_drewN HB.out (1 + nd + 1))
            have HSE := Aside0.mk (HSE0.out _ HBX.out)
            refine start_ (n := 10) (S := fun w' => w'.cell? ⟨d, 1, none⟩ = some (.slice (some ⟨ge, 0, none⟩) x.E.length ce)) (ds := [9]) #[false, false, false, false, false, false, false, false, false, false] (by kernel_rfl) rfl rfl (hd1) (fun hHeld => ?_)
            refine pure_ (i := 0) (N := some 40) (v := ?_) (a' := ?_) #[true, false, false, false, false, false, false, false, false, false] rfl rfl (by kernel_rfl) (fun _ _ _ h => h) (Or.inl ⟨by rfl, ?_⟩) ?_ ?_
            rotate_left
            · intro w'
              go_simp
              with_reducible rfl
            rotate_left
            · simp only [Act.put, List.setIfInBounds_toArray, List.set_cons_zero, List.set_cons_succ, i64_w, i32_w]
              rfl
            refine pure_ (i := 1) (N := some 41) (v := ?_) (a' := ?_) #[true, true, false, false, false, false, false, false, false, false] rfl rfl (by kernel_rfl) (fun _ _ _ h => h) (Or.inl ⟨by rfl, ?_⟩) ?_ ?_
            rotate_left
            · intro w'
              go_simp
              with_reducible rfl
            rotate_left
            · simp only [Act.put, List.setIfInBounds_toArray, List.set_cons_zero, List.set_cons_succ, i64_w, i32_w]
              rfl
            refine pure_ (i := 3) (N := some 43) (v := ?_) (a' := ?_) #[true, true, false, true, false, false, false, false, false, false] rfl rfl (by kernel_rfl) (fun _ _ _ h => h) (Or.inl ⟨by rfl, ?_⟩) ?_ ?_
            rotate_left
            · intro w'
              go_simp
              with_reducible rfl
            rotate_left
            · simp only [Act.put, List.setIfInBounds_toArray, List.set_cons_zero, List.set_cons_succ, i64_w, i32_w]
              rfl
            refine pure_ (i := 4) (N := some 44) (v := ?_) (a' := ?_) #[true, true, false, true, true, false, false, false, false, false] rfl rfl (by kernel_rfl) (fun _ _ _ h => h) (Or.inl ⟨by rfl, ?_⟩) ?_ ?_
            rotate_left
            · intro w'
              go_simp
              with_reducible rfl
            rotate_left
            · simp only [Act.put, List.setIfInBounds_toArray, List.set_cons_zero, List.set_cons_succ, i64_w, i32_w]
              rfl
            refine pure_ (i := 5) (N := some 45) (v := ?_) (a' := ?_) #[true, true, false, true, true, true, false, false, false, false] rfl rfl (by kernel_rfl) (fun _ _ _ h => h) (Or.inl ⟨by rfl, ?_⟩) ?_ ?_
            rotate_left
            · intro w'
              go_simp
              with_reducible rfl
            rotate_left
            · simp only [Act.put, List.setIfInBounds_toArray, List.set_cons_zero, List.set_cons_succ, i64_w, i32_w]
              rfl
            refine pure_ (i := 7) (N := some 47) (v := ?_) (a' := ?_) #[true, true, false, true, true, true, false, true, false, false] rfl rfl (by kernel_rfl) (fun _ _ _ h => h) (Or.inl ⟨by rfl, ?_⟩) ?_ ?_
            rotate_left
            · intro w'
              go_simp
              with_reducible rfl
            rotate_left
            · simp only [Act.put, List.setIfInBounds_toArray, List.set_cons_zero, List.set_cons_succ, i64_w, i32_w]
              rfl
            refine take_ (i := 6) (N := some 46) (v := ?_) (a' := ?_) #[true, true, false, true, true, true, true, true, false, false] rfl rfl (by kernel_rfl) (fun _ _ _ h => h) (Or.inl ⟨by rfl, ?_⟩) hHeld ?_ ?_
            rotate_left
            · intro w' s0
              go_simp
              with_reducible rfl
            rotate_left
            · simp only [Act.put, List.setIfInBounds_toArray, List.set_cons_zero, List.set_cons_succ, i64_w, i32_w]
              rfl
            refine one_ (i := 2) (N := some 42) #[true, true, true, true, true, true, true, true, false, false] rfl rfl (by kernel_rfl) (by decide) (fun K hK => ?_)
            refine goes_ Try.func52 (by kernel_rfl) rfl #[.slice (some ⟨gb, 0, none⟩) x.S.length cb, .int .i64 (i : Int)] (by rfl) rfl rfl (by simp only [List.map_toArray, List.map_cons, List.map_nil]; rfl) ?_
            with_reducible refine (dk_at gb x.S.length cb i _ HIS.out HCB.out HMS.out).mono ?_
            rintro e w3 ⟨rfl, rfl⟩
            refine ⟨_, rfl, ?_⟩
            refine hK.out _ _ (hd1) (fun hHeld => ?_)
            clear hK K
            refine norm_ (a' := ?_) ?_ ?_
            rotate_left
            · show Act.put _ (some 42) _ = _
              simp only [Act.put, List.setIfInBounds_toArray, List.set_cons_zero, List.set_cons_succ, i64_w, i32_w]
              rfl
            refine one_ (i := 8) (N := some 48) #[true, true, true, true, true, true, true, true, true, false] rfl rfl (by kernel_rfl) (by decide) (fun K hK => ?_)
            refine goes_ Try.func52 (by kernel_rfl) rfl #[.slice (some ⟨ge, 0, none⟩) x.E.length ce, .int .i64 (i : Int)] (by rfl) rfl rfl (by simp only [List.map_toArray, List.map_cons, List.map_nil]; rfl) ?_
            with_reducible refine (dk_at ge x.E.length ce i _ HIE.out HCE.out HME.out).mono ?_
            rintro e w3 ⟨rfl, rfl⟩
            refine ⟨_, rfl, ?_⟩
            refine hK.out _ _ (hd1) (fun hHeld => ?_)
            clear hK K
            refine norm_ (a' := ?_) ?_ ?_
            rotate_left
            · show Act.put _ (some 48) _ = _
              simp only [Act.put, List.setIfInBounds_toArray, List.set_cons_zero, List.set_cons_succ, i64_w, i32_w]
              rfl
            refine last_ (i := 9) (N := some 49) #[true, true, true, true, true, true, true, true, true, true] rfl rfl (by kernel_rfl) (by decide) (fun K hK => ?_)
            refine step_copy_R rfl (.tmp 42) (.tmp 48) 30 30 rfl 5 Try.underlying30 (by kernel_rfl) gb (i * 64) x.S.length cb 64 (cb - i * 64) 64 (ce - i * 64) (some ⟨ge, i * 64, none⟩) .u8 w.heap.size (fun _ => True) bc (sec x.E i) rfl rfl HRB.out HSE.out (by decide) (by decide) HIS.out ?_
            intro w7 HR7 HG7
            refine hK.out _ _ ?_
            clear hK K
            refine norm_ (a' := ?_) ?_ ?_
            rotate_left
            · show Act.put _ (some 49) _ = _
              simp only [Act.put, List.setIfInBounds_toArray, List.set_cons_zero, List.set_cons_succ, i64_w, i32_w]
              rfl
            refine done_ (by kernel_rfl) ?_

            go_wp2
            go_roundw
            case rel => exact ⟨i + 1, P', cp - 1, ps, splice bc (i * 64) (sec x.E i), by omega, rfl, by go_num, HCP2, HP2, HL2, HC2, HR7, ⟨pw_below_grown HBX.out (some gb) HBX.out.size HG7.out (fun k hk => by injection hk with hk; subst hk; exact Kd.R_base HRB.out _ rfl)⟩⟩
            case measure => simp [intOf]; omega
    · have he : i = cnt := by omega
      have HE := Aside0.mk he
      clear he
      go_wp2
      go_ret
      refine ⟨_, rfl, ?_, HB.out⟩
      have h1 := HCR.out
      rw [HE.out, Nat.sub_self, crashL] at h1
      rw [← h1]
      exact HRB.out

end Go.Proofs.Ytpkhpfgojhojaaa.PDk

namespace Go.Proofs.Ytpkhpfgojhojaaa.PDk
open Go.RowKit Go.Proofs.YtpkhpfgojhojaaaW.PrintWords Go.Proofs.YtpkhpfgojhojaaaW.PrintLast Go.Proofs.YtpkhpfgojhojaaaW.PrintMore
attribute [local go_sem] max2_int min2_int max_two min_two max_three min_three max_four min_four
set_option linter.unusedVariables false
set_option linter.unusedSimpArgs false
-- IMPORT: Derived.Test.@N@WOwn
-- IMPORT: Derived.Test.@N@DStroke
theorem cell_c {W : World} {g : Nat} {a : Value} {t : TypeId} (h : W.heap[g]? = some (.cells #[a] t (0, 0))) : W.cell? ⟨g, 0, none⟩ = some a := (blk_cell h 0).trans rfl
/-- The three boxes that Write lays. -/
def boxW (w : World) (d : Nat) (i : Int) (B : Option Addr) (n c : Nat) : World := ((w.alloc (.cells #[.pointer (some ⟨d, 0, none⟩)] 26)).alloc (.cells #[.int .i64 i] 3)).alloc (.cells #[.slice B n c] 30)
theorem boxW_facts (w : World) (d : Nat) (i : Int) (B : Option Addr) (n c : Nat) : (boxW w d i B n c).heap[w.heap.size]? = some (.cells #[.pointer (some ⟨d, 0, none⟩)] 26 (0, 0)) ∧ (boxW w d i B n c).heap[w.heap.size + 1]? = some (.cells #[.int .i64 i] 3 (0, 0)) ∧ (boxW w d i B n c).heap[w.heap.size + 1 + 1]? = some (.cells #[.slice B n c] 30 (0, 0)) := by
  have e1 : (w.alloc (.cells #[.pointer (some ⟨d, 0, none⟩)] 26)).heap.size = w.heap.size + 1 := World.size_alloc _ _
  have e2 : ((w.alloc (.cells #[.pointer (some ⟨d, 0, none⟩)] 26)).alloc (.cells #[.int .i64 i] 3)).heap.size = w.heap.size + 1 + 1 := by rw [World.size_alloc, World.size_alloc]
  refine ⟨blk_alloc (blk_alloc (blk_new w _) _) _, ?_, ?_⟩
  · have := blk_alloc (blk_new (w.alloc (.cells #[.pointer (some ⟨d, 0, none⟩)] 26)) (.cells #[.int .i64 i] 3)) (.cells #[.slice B n c] 30)
    rw [e1] at this; exact this
  · have := blk_new ((w.alloc (.cells #[.pointer (some ⟨d, 0, none⟩)] 26)).alloc (.cells #[.int .i64 i] 3)) (.cells #[.slice B n c] 30)
    rw [e2] at this; exact this
theorem boxW_below (w : World) (d : Nat) (i : Int) (B : Option Addr) (n c : Nat) : Below w.heap.size w (boxW w d i B n c) := below_alloc (below_alloc (below_alloc (Below.refl _ _) _) _) _
set_option maxHeartbeats 4000000 in
set_option maxRecDepth 100000 in
theorem dk_Write (d : Nat) (i : Int) (B : Option Addr) (c : Nat) (b : List Int) (w : World) (base : Nat) (ok : Nat → Prop) (x : Dk) (h : DkAt w base ok d x) (hbs : base ≤ w.heap.size) (hC : (Kd.int .u8).C w B b.length b) (hB : ∀ ad, B = some ad → ¬ ok ad.block) :
    Calls Try.prog 15 #[.pointer (some ⟨d, 0, none⟩), .int .i64 i, .slice B b.length c] w fun e w' => e = .returned (.int .i64 (x.write i b).2) ∧ DkAt w' base ok d (x.write i b).1 ∧ Kept w w' ok ∧ Below base w w' := by
  obtain ⟨okt, hokt⟩ : ∃ okt : Nat → Prop, okt = (fun k => ok k ∧ base ≤ k ∧ k < w.heap.size) := ⟨_, rfl⟩
  have HOK := Aside0.mk hokt
  have h0 := h.bound
  rw [← hokt] at h0
  have HD0 := Aside0.mk h0
  have HBX := Aside0.mk (boxW_below w d i B b.length c)
  have HD3 := Aside0.mk (h0.below (below_drew HBX.out))
  obtain ⟨hx1, hx2, hx3⟩ := boxW_facts w d i B b.length c
  have hb1 := cell_c hx1
  have hb2 := cell_c hx2
  have hb3 := cell_c hx3
  have HC := Aside0.mk hC
  have HB := Aside0.mk hB
  have HBS := Aside0.mk hbs
  have HFI := Aside0.mk h.fits
  have hmf : ∀ (fn : Fn) (first cap : Array Value) (w : World), (Instr.makeFunc fn first cap).run Try.prog w = .ok (.func fn first cap) w := fun _ _ _ _ => rfl
  have HEND : Aside0 (∀ w', Below (boxW w d i B b.length c).heap.size (boxW w d i B b.length c) w' → DkAt w' base ok d x ∧ Kept w w' ok ∧ Below base w w') := ⟨fun w' hw => by
    have hww : Below w.heap.size w w' := below_step HBX.out hw
    exact ⟨h.below hww, Kept.of_below hww ok, hww.mono HBS.out⟩⟩
  clear h h0 hx1 hx2 hx3 hC hB hbs hokt
  unfold boxW at hb1 hb2 hb3 HBX HD3
  by_cases k1 : i < 0
  · have t1 : decide (i < 0) = true := decide_eq_true k1
    have HN : Aside0 (x.write i b = (x, 100)) := ⟨by unfold Dk.write; rw [if_neg (by omega)]⟩
    clear k1
    go_enter Try.func15, Try.ntmps15
    go_upto_region 1 with (fail)
    refine start_ (n := 13) (S := fun w' => w'.cell? ⟨w.heap.size + 1, 0, none⟩ = some (.int .i64 i) ∧ w'.cell? ⟨w.heap.size, 0, none⟩ = some (.pointer (some ⟨d, 0, none⟩)) ∧ w'.cell? ⟨w.heap.size + 1 + 1, 0, none⟩ = some (.slice B b.length c)) (ds := []) #[false, false, false, false, false, false, false, false, false, false, false, false, false] (by kernel_rfl) rfl rfl ⟨hb2, hb1, hb3⟩ (fun hHeld => ?_)
    refine take_ (i := 0) (N := some 7) (v := ?_) (a' := ?_) #[true, false, false, false, false, false, false, false, false, false, false, false, false] rfl rfl (by kernel_rfl) (fun _ _ _ h => h) (Or.inl ⟨by rfl, ?_⟩) hHeld ?_ ?_
    rotate_left
    · rintro w' ⟨s0, s1, s2⟩
      go_simp
      with_reducible rfl
    rotate_left
    · simp only [Act.put, List.setIfInBounds_toArray, List.set_cons_zero, List.set_cons_succ, i64_w, i32_w]
      rfl
    refine pure_ (i := 1) (N := some 8) (v := ?_) (a' := ?_) #[true, true, false, false, false, false, false, false, false, false, false, false, false] rfl rfl (by kernel_rfl) (fun _ _ _ h => h) (Or.inl ⟨by rfl, ?_⟩) ?_ ?_
    rotate_left
    · intro w'
      go_simp
      with_reducible rfl
    rotate_left
    · simp only [Act.put, List.setIfInBounds_toArray, List.set_cons_zero, List.set_cons_succ, i64_w, i32_w]
      rfl
    refine pure_ (i := 2) (N := some 9) (v := ?_) (a' := ?_) #[true, true, true, false, false, false, false, false, false, false, false, false, false] rfl rfl (by kernel_rfl) (fun _ _ _ h => h) (Or.inl ⟨by rfl, ?_⟩) ?_ ?_
    rotate_left
    · intro w'
      go_simp
      with_reducible rfl
    rotate_left
    · simp only [Act.put, List.setIfInBounds_toArray, List.set_cons_zero, List.set_cons_succ, i64_w, i32_w]
      rfl
    refine pure_ (i := 3) (N := some 10) (v := undef) (a' := ?_) #[true, true, true, true, false, false, false, false, false, false, false, false, false] rfl rfl (by kernel_rfl) (fun _ _ _ h => h) (Or.inr ⟨by rfl, rfl⟩) ?_ ?_
    rotate_left
    · simp only [Act.put, List.setIfInBounds_toArray, List.set_cons_zero, List.set_cons_succ, i64_w, i32_w]
      rfl
    refine pure_ (i := 4) (N := some 11) (v := undef) (a' := ?_) #[true, true, true, true, true, false, false, false, false, false, false, false, false] rfl rfl (by kernel_rfl) (fun _ _ _ h => h) (Or.inr ⟨by rfl, rfl⟩) ?_ ?_
    rotate_left
    · simp only [Act.put, List.setIfInBounds_toArray, List.set_cons_zero, List.set_cons_succ, i64_w, i32_w]
      rfl
    refine pure_ (i := 5) (N := some 12) (v := undef) (a' := ?_) #[true, true, true, true, true, true, false, false, false, false, false, false, false] rfl rfl (by kernel_rfl) (fun _ _ _ h => h) (Or.inr ⟨by rfl, rfl⟩) ?_ ?_
    rotate_left
    · simp only [Act.put, List.setIfInBounds_toArray, List.set_cons_zero, List.set_cons_succ, i64_w, i32_w]
      rfl
    refine pure_ (i := 6) (N := some 13) (v := undef) (a' := ?_) #[true, true, true, true, true, true, true, false, false, false, false, false, false] rfl rfl (by kernel_rfl) (fun _ _ _ h => h) (Or.inr ⟨by rfl, rfl⟩) ?_ ?_
    rotate_left
    · simp only [Act.put, List.setIfInBounds_toArray, List.set_cons_zero, List.set_cons_succ, i64_w, i32_w]
      rfl
    refine pure_ (i := 7) (N := some 14) (v := ?_) (a' := ?_) #[true, true, true, true, true, true, true, true, false, false, false, false, false] rfl rfl (by kernel_rfl) (fun _ _ _ h => h) (Or.inl ⟨by rfl, ?_⟩) ?_ ?_
    rotate_left
    · intro w'
      go_simp
      with_reducible rfl
    rotate_left
    · simp only [Act.put, List.setIfInBounds_toArray, List.set_cons_zero, List.set_cons_succ, i64_w, i32_w]
      rfl
    refine pure_ (i := 8) (N := some 15) (v := ?_) (a' := ?_) #[true, true, true, true, true, true, true, true, true, false, false, false, false] rfl rfl (by kernel_rfl) (fun _ _ _ h => h) (Or.inl ⟨by rfl, ?_⟩) ?_ ?_
    rotate_left
    · intro w'
      go_simp
      with_reducible rfl
    rotate_left
    · simp only [Act.put, List.setIfInBounds_toArray, List.set_cons_zero, List.set_cons_succ, i64_w, i32_w]
      rfl
    refine pure_ (i := 9) (N := some 16) (v := undef) (a' := ?_) #[true, true, true, true, true, true, true, true, true, true, false, false, false] rfl rfl (by kernel_rfl) (fun _ _ _ h => h) (Or.inr ⟨by rfl, rfl⟩) ?_ ?_
    rotate_left
    · simp only [Act.put, List.setIfInBounds_toArray, List.set_cons_zero, List.set_cons_succ, i64_w, i32_w]
      rfl
    refine pure_ (i := 10) (N := some 17) (v := undef) (a' := ?_) #[true, true, true, true, true, true, true, true, true, true, true, false, false] rfl rfl (by kernel_rfl) (fun _ _ _ h => h) (Or.inr ⟨by rfl, rfl⟩) ?_ ?_
    rotate_left
    · simp only [Act.put, List.setIfInBounds_toArray, List.set_cons_zero, List.set_cons_succ, i64_w, i32_w]
      rfl
    refine pure_ (i := 11) (N := some 18) (v := undef) (a' := ?_) #[true, true, true, true, true, true, true, true, true, true, true, true, false] rfl rfl (by kernel_rfl) (fun _ _ _ h => h) (Or.inr ⟨by rfl, rfl⟩) ?_ ?_
    rotate_left
    · simp only [Act.put, List.setIfInBounds_toArray, List.set_cons_zero, List.set_cons_succ, i64_w, i32_w]
      rfl
    refine pure_ (i := 12) (N := some 19) (v := ?_) (a' := ?_) #[true, true, true, true, true, true, true, true, true, true, true, true, true] rfl rfl (by kernel_rfl) (fun _ _ _ h => h) (Or.inl ⟨by rfl, ?_⟩) ?_ ?_
    rotate_left
    · intro w'
      go_simp
      with_reducible rfl
    rotate_left
    · simp only [Act.put, List.setIfInBounds_toArray, List.set_cons_zero, List.set_cons_succ, i64_w, i32_w]
      rfl
    refine done_ (by kernel_rfl) ?_

    go_wp2
    go_ret
    rw [HN.out]
    exact ⟨rfl, HEND.out _ (below_drew (Below.refl _ _))⟩
  · have t1 : decide (i < 0) = false := decide_eq_false k1
    by_cases k2 : i ≥ (x.E.length : Int) / 64
    · have t2 : decide (i ≥ (x.E.length : Int) / 64) = true := decide_eq_true k2
      have t3 : decide ((x.E.length : Int) / 64 ≤ i) = true := decide_eq_true k2
      have HN : Aside0 (x.write i b = (x, 100)) := ⟨by unfold Dk.write; rw [if_neg (by omega)]⟩
      clear k1 k2
      go_enter Try.func15, Try.ntmps15
      go_upto_region 1 with (fail)
      refine start_ (n := 13) (S := fun w' => w'.cell? ⟨w.heap.size + 1, 0, none⟩ = some (.int .i64 i) ∧ w'.cell? ⟨w.heap.size, 0, none⟩ = some (.pointer (some ⟨d, 0, none⟩)) ∧ w'.cell? ⟨w.heap.size + 1 + 1, 0, none⟩ = some (.slice B b.length c)) (ds := []) #[false, false, false, false, false, false, false, false, false, false, false, false, false] (by kernel_rfl) rfl rfl ⟨hb2, hb1, hb3⟩ (fun hHeld => ?_)
      refine take_ (i := 0) (N := some 7) (v := ?_) (a' := ?_) #[true, false, false, false, false, false, false, false, false, false, false, false, false] rfl rfl (by kernel_rfl) (fun _ _ _ h => h) (Or.inl ⟨by rfl, ?_⟩) hHeld ?_ ?_
      rotate_left
      · rintro w' ⟨s0, s1, s2⟩
        go_simp
        with_reducible rfl
      rotate_left
      · simp only [Act.put, List.setIfInBounds_toArray, List.set_cons_zero, List.set_cons_succ, i64_w, i32_w]
        rfl
      refine pure_ (i := 1) (N := some 8) (v := ?_) (a' := ?_) #[true, true, false, false, false, false, false, false, false, false, false, false, false] rfl rfl (by kernel_rfl) (fun _ _ _ h => h) (Or.inl ⟨by rfl, ?_⟩) ?_ ?_
      rotate_left
      · intro w'
        go_simp
        with_reducible rfl
      rotate_left
      · simp only [Act.put, List.setIfInBounds_toArray, List.set_cons_zero, List.set_cons_succ, i64_w, i32_w]
        rfl
      refine pure_ (i := 2) (N := some 9) (v := ?_) (a' := ?_) #[true, true, true, false, false, false, false, false, false, false, false, false, false] rfl rfl (by kernel_rfl) (fun _ _ _ h => h) (Or.inl ⟨by rfl, ?_⟩) ?_ ?_
      rotate_left
      · intro w'
        go_simp
        with_reducible rfl
      rotate_left
      · simp only [Act.put, List.setIfInBounds_toArray, List.set_cons_zero, List.set_cons_succ, i64_w, i32_w]
        rfl
      refine take_ (i := 3) (N := some 10) (v := ?_) (a' := ?_) #[true, true, true, true, false, false, false, false, false, false, false, false, false] rfl rfl (by kernel_rfl) (fun _ _ _ h => h) (Or.inl ⟨by rfl, ?_⟩) hHeld ?_ ?_
      rotate_left
      · rintro w' ⟨s0, s1, s2⟩
        go_simp
        with_reducible rfl
      rotate_left
      · simp only [Act.put, List.setIfInBounds_toArray, List.set_cons_zero, List.set_cons_succ, i64_w, i32_w]
        rfl
      refine take_ (i := 4) (N := some 11) (v := ?_) (a' := ?_) #[true, true, true, true, true, false, false, false, false, false, false, false, false] rfl rfl (by kernel_rfl) (fun _ _ _ h => h) (Or.inl ⟨by rfl, ?_⟩) hHeld ?_ ?_
      rotate_left
      · rintro w' ⟨s0, s1, s2⟩
        go_simp
        with_reducible rfl
      rotate_left
      · simp only [Act.put, List.setIfInBounds_toArray, List.set_cons_zero, List.set_cons_succ, i64_w, i32_w]
        rfl
      refine one_ (i := 5) (N := some 12) #[true, true, true, true, true, true, false, false, false, false, false, false, false] rfl rfl (by kernel_rfl) (by decide) (fun K hK => ?_)
      refine goes_ Try.func30 (by kernel_rfl) rfl #[.pointer (some ⟨d, 0, none⟩)] (by rfl) rfl rfl (by simp only [List.map_toArray, List.map_cons, List.map_nil]; rfl) ?_
      with_reducible refine (dk_count d _ base _ x HD3.out).mono ?_
      rintro e w5 ⟨rfl, rfl⟩
      refine ⟨_, rfl, ?_⟩
      refine hK.out _ _ ⟨hb2, hb1, hb3⟩ (fun hHeld => ?_)
      clear hK K
      refine norm_ (a' := ?_) ?_ ?_
      rotate_left
      · show Act.put _ (some 12) _ = _
        simp only [Act.put, List.setIfInBounds_toArray, List.set_cons_zero, List.set_cons_succ, i64_w, i32_w]
        rfl
      refine pure_ (i := 6) (N := some 13) (v := ?_) (a' := ?_) #[true, true, true, true, true, true, true, false, false, false, false, false, false] rfl rfl (by kernel_rfl) (fun _ _ _ h => h) (Or.inl ⟨by rfl, ?_⟩) ?_ ?_
      rotate_left
      · intro w'
        go_simp
        with_reducible rfl
      rotate_left
      · simp only [Act.put, List.setIfInBounds_toArray, List.set_cons_zero, List.set_cons_succ, i64_w, i32_w]
        rfl
      refine pure_ (i := 7) (N := some 14) (v := ?_) (a' := ?_) #[true, true, true, true, true, true, true, true, false, false, false, false, false] rfl rfl (by kernel_rfl) (fun _ _ _ h => h) (Or.inl ⟨by rfl, ?_⟩) ?_ ?_
      rotate_left
      · intro w'
        go_simp
        with_reducible rfl
      rotate_left
      · simp only [Act.put, List.setIfInBounds_toArray, List.set_cons_zero, List.set_cons_succ, i64_w, i32_w]
        rfl
      refine pure_ (i := 8) (N := some 15) (v := ?_) (a' := ?_) #[true, true, true, true, true, true, true, true, true, false, false, false, false] rfl rfl (by kernel_rfl) (fun _ _ _ h => h) (Or.inl ⟨by rfl, ?_⟩) ?_ ?_
      rotate_left
      · intro w'
        go_simp
        with_reducible rfl
      rotate_left
      · simp only [Act.put, List.setIfInBounds_toArray, List.set_cons_zero, List.set_cons_succ, i64_w, i32_w]
        rfl
      refine pure_ (i := 9) (N := some 16) (v := undef) (a' := ?_) #[true, true, true, true, true, true, true, true, true, true, false, false, false] rfl rfl (by kernel_rfl) (fun _ _ _ h => h) (Or.inr ⟨by rfl, rfl⟩) ?_ ?_
      rotate_left
      · simp only [Act.put, List.setIfInBounds_toArray, List.set_cons_zero, List.set_cons_succ, i64_w, i32_w]
        rfl
      refine pure_ (i := 10) (N := some 17) (v := undef) (a' := ?_) #[true, true, true, true, true, true, true, true, true, true, true, false, false] rfl rfl (by kernel_rfl) (fun _ _ _ h => h) (Or.inr ⟨by rfl, rfl⟩) ?_ ?_
      rotate_left
      · simp only [Act.put, List.setIfInBounds_toArray, List.set_cons_zero, List.set_cons_succ, i64_w, i32_w]
        rfl
      refine pure_ (i := 11) (N := some 18) (v := undef) (a' := ?_) #[true, true, true, true, true, true, true, true, true, true, true, true, false] rfl rfl (by kernel_rfl) (fun _ _ _ h => h) (Or.inr ⟨by rfl, rfl⟩) ?_ ?_
      rotate_left
      · simp only [Act.put, List.setIfInBounds_toArray, List.set_cons_zero, List.set_cons_succ, i64_w, i32_w]
        rfl
      refine pure_ (i := 12) (N := some 19) (v := ?_) (a' := ?_) #[true, true, true, true, true, true, true, true, true, true, true, true, true] rfl rfl (by kernel_rfl) (fun _ _ _ h => h) (Or.inl ⟨by rfl, ?_⟩) ?_ ?_
      rotate_left
      · intro w'
        go_simp
        with_reducible rfl
      rotate_left
      · simp only [Act.put, List.setIfInBounds_toArray, List.set_cons_zero, List.set_cons_succ, i64_w, i32_w]
        rfl
      refine done_ (by kernel_rfl) ?_

      go_wp2
      go_ret
      rw [HN.out]
      exact ⟨rfl, HEND.out _ (below_drew (Below.refl _ _))⟩
    · have t2 : decide (i ≥ (x.E.length : Int) / 64) = false := decide_eq_false k2
      have t3 : decide ((x.E.length : Int) / 64 ≤ i) = false := decide_eq_false k2
      by_cases k3 : b.length = 64
      · have t4 : ((b.length : Int) != 64) = false := by rw [k3]; rfl
        have t5 : (b.length != 64) = false := by rw [k3]; rfl
        obtain ⟨m, rfl⟩ : ∃ m : Nat, i = (m : Int) := ⟨i.toNat, by omega⟩
        have HI : Aside0 (m * 64 + 64 ≤ x.E.length) := ⟨by omega⟩
        have HL := Aside0.mk k3
        have HN : Aside0 (x.write (m : Int) b = (x.strokeW (splice x.E (m * 64) b), x.told)) := ⟨by unfold Dk.write Dk.strokeW Dk.told; rw [if_pos (by omega)]; split <;> rfl⟩
        clear k1 k2 k3
        go_enter Try.func15, Try.ntmps15
        go_upto_region 1 with (fail)
        refine start_ (n := 13) (S := fun w' => w'.cell? ⟨w.heap.size + 1, 0, none⟩ = some (.int .i64 (m : Int)) ∧ w'.cell? ⟨w.heap.size, 0, none⟩ = some (.pointer (some ⟨d, 0, none⟩)) ∧ w'.cell? ⟨w.heap.size + 1 + 1, 0, none⟩ = some (.slice B b.length c)) (ds := []) #[false, false, false, false, false, false, false, false, false, false, false, false, false] (by kernel_rfl) rfl rfl ⟨hb2, hb1, hb3⟩ (fun hHeld => ?_)
        refine take_ (i := 0) (N := some 7) (v := ?_) (a' := ?_) #[true, false, false, false, false, false, false, false, false, false, false, false, false] rfl rfl (by kernel_rfl) (fun _ _ _ h => h) (Or.inl ⟨by rfl, ?_⟩) hHeld ?_ ?_
        rotate_left
        · rintro w' ⟨s0, s1, s2⟩
          go_simp
          with_reducible rfl
        rotate_left
        · simp only [Act.put, List.setIfInBounds_toArray, List.set_cons_zero, List.set_cons_succ, i64_w, i32_w]
          rfl
        refine pure_ (i := 1) (N := some 8) (v := ?_) (a' := ?_) #[true, true, false, false, false, false, false, false, false, false, false, false, false] rfl rfl (by kernel_rfl) (fun _ _ _ h => h) (Or.inl ⟨by rfl, ?_⟩) ?_ ?_
        rotate_left
        · intro w'
          go_simp
          with_reducible rfl
        rotate_left
        · simp only [Act.put, List.setIfInBounds_toArray, List.set_cons_zero, List.set_cons_succ, i64_w, i32_w]
          rfl
        refine pure_ (i := 2) (N := some 9) (v := ?_) (a' := ?_) #[true, true, true, false, false, false, false, false, false, false, false, false, false] rfl rfl (by kernel_rfl) (fun _ _ _ h => h) (Or.inl ⟨by rfl, ?_⟩) ?_ ?_
        rotate_left
        · intro w'
          go_simp
          with_reducible rfl
        rotate_left
        · simp only [Act.put, List.setIfInBounds_toArray, List.set_cons_zero, List.set_cons_succ, i64_w, i32_w]
          rfl
        refine take_ (i := 3) (N := some 10) (v := ?_) (a' := ?_) #[true, true, true, true, false, false, false, false, false, false, false, false, false] rfl rfl (by kernel_rfl) (fun _ _ _ h => h) (Or.inl ⟨by rfl, ?_⟩) hHeld ?_ ?_
        rotate_left
        · rintro w' ⟨s0, s1, s2⟩
          go_simp
          with_reducible rfl
        rotate_left
        · simp only [Act.put, List.setIfInBounds_toArray, List.set_cons_zero, List.set_cons_succ, i64_w, i32_w]
          rfl
        refine take_ (i := 4) (N := some 11) (v := ?_) (a' := ?_) #[true, true, true, true, true, false, false, false, false, false, false, false, false] rfl rfl (by kernel_rfl) (fun _ _ _ h => h) (Or.inl ⟨by rfl, ?_⟩) hHeld ?_ ?_
        rotate_left
        · rintro w' ⟨s0, s1, s2⟩
          go_simp
          with_reducible rfl
        rotate_left
        · simp only [Act.put, List.setIfInBounds_toArray, List.set_cons_zero, List.set_cons_succ, i64_w, i32_w]
          rfl
        refine one_ (i := 5) (N := some 12) #[true, true, true, true, true, true, false, false, false, false, false, false, false] rfl rfl (by kernel_rfl) (by decide) (fun K hK => ?_)
        refine goes_ Try.func30 (by kernel_rfl) rfl #[.pointer (some ⟨d, 0, none⟩)] (by rfl) rfl rfl (by simp only [List.map_toArray, List.map_cons, List.map_nil]; rfl) ?_
        with_reducible refine (dk_count d _ base _ x HD3.out).mono ?_
        rintro e w5 ⟨rfl, rfl⟩
        refine ⟨_, rfl, ?_⟩
        refine hK.out _ _ ⟨hb2, hb1, hb3⟩ (fun hHeld => ?_)
        clear hK K
        refine norm_ (a' := ?_) ?_ ?_
        rotate_left
        · show Act.put _ (some 12) _ = _
          simp only [Act.put, List.setIfInBounds_toArray, List.set_cons_zero, List.set_cons_succ, i64_w, i32_w]
          rfl
        refine pure_ (i := 6) (N := some 13) (v := ?_) (a' := ?_) #[true, true, true, true, true, true, true, false, false, false, false, false, false] rfl rfl (by kernel_rfl) (fun _ _ _ h => h) (Or.inl ⟨by rfl, ?_⟩) ?_ ?_
        rotate_left
        · intro w'
          go_simp
          with_reducible rfl
        rotate_left
        · simp only [Act.put, List.setIfInBounds_toArray, List.set_cons_zero, List.set_cons_succ, i64_w, i32_w]
          rfl
        refine pure_ (i := 7) (N := some 14) (v := ?_) (a' := ?_) #[true, true, true, true, true, true, true, true, false, false, false, false, false] rfl rfl (by kernel_rfl) (fun _ _ _ h => h) (Or.inl ⟨by rfl, ?_⟩) ?_ ?_
        rotate_left
        · intro w'
          go_simp
          with_reducible rfl
        rotate_left
        · simp only [Act.put, List.setIfInBounds_toArray, List.set_cons_zero, List.set_cons_succ, i64_w, i32_w]
          rfl
        refine pure_ (i := 8) (N := some 15) (v := ?_) (a' := ?_) #[true, true, true, true, true, true, true, true, true, false, false, false, false] rfl rfl (by kernel_rfl) (fun _ _ _ h => h) (Or.inl ⟨by rfl, ?_⟩) ?_ ?_
        rotate_left
        · intro w'
          go_simp
          with_reducible rfl
        rotate_left
        · simp only [Act.put, List.setIfInBounds_toArray, List.set_cons_zero, List.set_cons_succ, i64_w, i32_w]
          rfl
        refine take_ (i := 9) (N := some 16) (v := ?_) (a' := ?_) #[true, true, true, true, true, true, true, true, true, true, false, false, false] rfl rfl (by kernel_rfl) (fun _ _ _ h => h) (Or.inl ⟨by rfl, ?_⟩) hHeld ?_ ?_
        rotate_left
        · rintro w' ⟨s0, s1, s2⟩
          go_simp
          with_reducible rfl
        rotate_left
        · simp only [Act.put, List.setIfInBounds_toArray, List.set_cons_zero, List.set_cons_succ, i64_w, i32_w]
          rfl
        refine pure_ (i := 10) (N := some 17) (v := ?_) (a' := ?_) #[true, true, true, true, true, true, true, true, true, true, true, false, false] rfl rfl (by kernel_rfl) (fun _ _ _ h => h) (Or.inl ⟨by rfl, ?_⟩) ?_ ?_
        rotate_left
        · intro w'
          go_simp
          with_reducible rfl
        rotate_left
        · simp only [Act.put, List.setIfInBounds_toArray, List.set_cons_zero, List.set_cons_succ, i64_w, i32_w]
          rfl
        refine pure_ (i := 11) (N := some 18) (v := ?_) (a' := ?_) #[true, true, true, true, true, true, true, true, true, true, true, true, false] rfl rfl (by kernel_rfl) (fun _ _ _ h => h) (Or.inl ⟨by rfl, ?_⟩) ?_ ?_
        rotate_left
        · intro w'
          go_simp
          with_reducible rfl
        rotate_left
        · simp only [Act.put, List.setIfInBounds_toArray, List.set_cons_zero, List.set_cons_succ, i64_w, i32_w]
          rfl
        refine pure_ (i := 12) (N := some 19) (v := ?_) (a' := ?_) #[true, true, true, true, true, true, true, true, true, true, true, true, true] rfl rfl (by kernel_rfl) (fun _ _ _ h => h) (Or.inl ⟨by rfl, ?_⟩) ?_ ?_
        rotate_left
        · intro w'
          go_simp
          with_reducible rfl
        rotate_left
        · simp only [Act.put, List.setIfInBounds_toArray, List.set_cons_zero, List.set_cons_succ, i64_w, i32_w]
          rfl
        refine done_ (by kernel_rfl) ?_

        have HP1 : Aside0 ((((w.alloc (.cells #[.pointer (some ⟨d, 0, none⟩)] 26)).alloc (.cells #[.int .i64 (m : Int)] 3)).alloc (.cells #[.slice B b.length c] 30)).drew.cell? ⟨w.heap.size, 0, none⟩ = some (.pointer (some ⟨d, 0, none⟩))) := ⟨hb1⟩
        have HP2 : Aside0 ((((w.alloc (.cells #[.pointer (some ⟨d, 0, none⟩)] 26)).alloc (.cells #[.int .i64 (m : Int)] 3)).alloc (.cells #[.slice B b.length c] 30)).drew.cell? ⟨w.heap.size + 1, 0, none⟩ = some (.int .i64 (m : Int))) := ⟨hb2⟩
        have HP3 : Aside0 ((((w.alloc (.cells #[.pointer (some ⟨d, 0, none⟩)] 26)).alloc (.cells #[.int .i64 (m : Int)] 3)).alloc (.cells #[.slice B b.length c] 30)).drew.cell? ⟨w.heap.size + 1 + 1, 0, none⟩ = some (.slice B 64 c)) := ⟨by rw [← HL.out]; exact hb3⟩
        have HC3 : Aside0 ((Kd.int .u8).C (((w.alloc (.cells #[.pointer (some ⟨d, 0, none⟩)] 26)).alloc (.cells #[.int .i64 (m : Int)] 3)).alloc (.cells #[.slice B b.length c] 30)).drew B 64 b) := ⟨by have := Kd.C_below HC.out (below_drew HBX.out); rw [HL.out] at this; rw [HL.out]; exact this⟩
        have HPO : Aside0 ((∀ ad, B = some ad → ¬ okt ad.block) ∧ ¬ okt w.heap.size ∧ ¬ okt (w.heap.size + 1) ∧ ¬ okt (w.heap.size + 1 + 1)) := ⟨by rw [HOK.out]; exact ⟨fun ad e hk => HB.out ad e hk.1, fun hk => by have := hk.2.2; omega, fun hk => by have := hk.2.2; omega, fun hk => by have := hk.2.2; omega⟩⟩
        go_wp2_with (first | (go_at_call 50; refine (dk_stroke_w d w.heap.size (w.heap.size + 1) (w.heap.size + 1 + 1) m c B b _ base okt x HD3.out HI.out HC3.out HP1.out HP2.out HP3.out HPO.out.1 HPO.out.2).mono ?_; rintro e w6 ⟨rfl, hd6, hk6, hb6⟩; have HD6 := Aside0.mk hd6; have HK6 := Aside0.mk hk6; have HB6 := Aside0.mk hb6; clear hd6 hk6 hb6))
        go_ret
        rw [HN.out]
        exact ⟨rfl, HD6.out.mono (fun k hk => by rw [HOK.out] at hk; exact hk.1), ((Kept.of_below (below_drew HBX.out) okt).then_ HK6.out (fun k hk => .inl hk)).mono (fun k hk => by rw [HOK.out] at hk; exact hk.1), ((below_drew HBX.out).mono HBS.out).trans HB6.out⟩
      · have t4 : ((b.length : Int) != 64) = true := by simp; omega
        have t5 : (b.length != 64) = true := by simpa using k3
        have HN : Aside0 (x.write i b = (x, 100)) := ⟨by unfold Dk.write; rw [if_neg (by omega)]⟩
        clear k1 k2 k3
        go_enter Try.func15, Try.ntmps15
        go_upto_region 1 with (fail)
        refine start_ (n := 13) (S := fun w' => w'.cell? ⟨w.heap.size + 1, 0, none⟩ = some (.int .i64 i) ∧ w'.cell? ⟨w.heap.size, 0, none⟩ = some (.pointer (some ⟨d, 0, none⟩)) ∧ w'.cell? ⟨w.heap.size + 1 + 1, 0, none⟩ = some (.slice B b.length c)) (ds := []) #[false, false, false, false, false, false, false, false, false, false, false, false, false] (by kernel_rfl) rfl rfl ⟨hb2, hb1, hb3⟩ (fun hHeld => ?_)
        refine take_ (i := 0) (N := some 7) (v := ?_) (a' := ?_) #[true, false, false, false, false, false, false, false, false, false, false, false, false] rfl rfl (by kernel_rfl) (fun _ _ _ h => h) (Or.inl ⟨by rfl, ?_⟩) hHeld ?_ ?_
        rotate_left
        · rintro w' ⟨s0, s1, s2⟩
          go_simp
          with_reducible rfl
        rotate_left
        · simp only [Act.put, List.setIfInBounds_toArray, List.set_cons_zero, List.set_cons_succ, i64_w, i32_w]
          rfl
        refine pure_ (i := 1) (N := some 8) (v := ?_) (a' := ?_) #[true, true, false, false, false, false, false, false, false, false, false, false, false] rfl rfl (by kernel_rfl) (fun _ _ _ h => h) (Or.inl ⟨by rfl, ?_⟩) ?_ ?_
        rotate_left
        · intro w'
          go_simp
          with_reducible rfl
        rotate_left
        · simp only [Act.put, List.setIfInBounds_toArray, List.set_cons_zero, List.set_cons_succ, i64_w, i32_w]
          rfl
        refine pure_ (i := 2) (N := some 9) (v := ?_) (a' := ?_) #[true, true, true, false, false, false, false, false, false, false, false, false, false] rfl rfl (by kernel_rfl) (fun _ _ _ h => h) (Or.inl ⟨by rfl, ?_⟩) ?_ ?_
        rotate_left
        · intro w'
          go_simp
          with_reducible rfl
        rotate_left
        · simp only [Act.put, List.setIfInBounds_toArray, List.set_cons_zero, List.set_cons_succ, i64_w, i32_w]
          rfl
        refine take_ (i := 3) (N := some 10) (v := ?_) (a' := ?_) #[true, true, true, true, false, false, false, false, false, false, false, false, false] rfl rfl (by kernel_rfl) (fun _ _ _ h => h) (Or.inl ⟨by rfl, ?_⟩) hHeld ?_ ?_
        rotate_left
        · rintro w' ⟨s0, s1, s2⟩
          go_simp
          with_reducible rfl
        rotate_left
        · simp only [Act.put, List.setIfInBounds_toArray, List.set_cons_zero, List.set_cons_succ, i64_w, i32_w]
          rfl
        refine take_ (i := 4) (N := some 11) (v := ?_) (a' := ?_) #[true, true, true, true, true, false, false, false, false, false, false, false, false] rfl rfl (by kernel_rfl) (fun _ _ _ h => h) (Or.inl ⟨by rfl, ?_⟩) hHeld ?_ ?_
        rotate_left
        · rintro w' ⟨s0, s1, s2⟩
          go_simp
          with_reducible rfl
        rotate_left
        · simp only [Act.put, List.setIfInBounds_toArray, List.set_cons_zero, List.set_cons_succ, i64_w, i32_w]
          rfl
        refine one_ (i := 5) (N := some 12) #[true, true, true, true, true, true, false, false, false, false, false, false, false] rfl rfl (by kernel_rfl) (by decide) (fun K hK => ?_)
        refine goes_ Try.func30 (by kernel_rfl) rfl #[.pointer (some ⟨d, 0, none⟩)] (by rfl) rfl rfl (by simp only [List.map_toArray, List.map_cons, List.map_nil]; rfl) ?_
        with_reducible refine (dk_count d _ base _ x HD3.out).mono ?_
        rintro e w5 ⟨rfl, rfl⟩
        refine ⟨_, rfl, ?_⟩
        refine hK.out _ _ ⟨hb2, hb1, hb3⟩ (fun hHeld => ?_)
        clear hK K
        refine norm_ (a' := ?_) ?_ ?_
        rotate_left
        · show Act.put _ (some 12) _ = _
          simp only [Act.put, List.setIfInBounds_toArray, List.set_cons_zero, List.set_cons_succ, i64_w, i32_w]
          rfl
        refine pure_ (i := 6) (N := some 13) (v := ?_) (a' := ?_) #[true, true, true, true, true, true, true, false, false, false, false, false, false] rfl rfl (by kernel_rfl) (fun _ _ _ h => h) (Or.inl ⟨by rfl, ?_⟩) ?_ ?_
        rotate_left
        · intro w'
          go_simp
          with_reducible rfl
        rotate_left
        · simp only [Act.put, List.setIfInBounds_toArray, List.set_cons_zero, List.set_cons_succ, i64_w, i32_w]
          rfl
        refine pure_ (i := 7) (N := some 14) (v := ?_) (a' := ?_) #[true, true, true, true, true, true, true, true, false, false, false, false, false] rfl rfl (by kernel_rfl) (fun _ _ _ h => h) (Or.inl ⟨by rfl, ?_⟩) ?_ ?_
        rotate_left
        · intro w'
          go_simp
          with_reducible rfl
        rotate_left
        · simp only [Act.put, List.setIfInBounds_toArray, List.set_cons_zero, List.set_cons_succ, i64_w, i32_w]
          rfl
        refine pure_ (i := 8) (N := some 15) (v := ?_) (a' := ?_) #[true, true, true, true, true, true, true, true, true, false, false, false, false] rfl rfl (by kernel_rfl) (fun _ _ _ h => h) (Or.inl ⟨by rfl, ?_⟩) ?_ ?_
        rotate_left
        · intro w'
          go_simp
          with_reducible rfl
        rotate_left
        · simp only [Act.put, List.setIfInBounds_toArray, List.set_cons_zero, List.set_cons_succ, i64_w, i32_w]
          rfl
        refine take_ (i := 9) (N := some 16) (v := ?_) (a' := ?_) #[true, true, true, true, true, true, true, true, true, true, false, false, false] rfl rfl (by kernel_rfl) (fun _ _ _ h => h) (Or.inl ⟨by rfl, ?_⟩) hHeld ?_ ?_
        rotate_left
        · rintro w' ⟨s0, s1, s2⟩
          go_simp
          with_reducible rfl
        rotate_left
        · simp only [Act.put, List.setIfInBounds_toArray, List.set_cons_zero, List.set_cons_succ, i64_w, i32_w]
          rfl
        refine pure_ (i := 10) (N := some 17) (v := ?_) (a' := ?_) #[true, true, true, true, true, true, true, true, true, true, true, false, false] rfl rfl (by kernel_rfl) (fun _ _ _ h => h) (Or.inl ⟨by rfl, ?_⟩) ?_ ?_
        rotate_left
        · intro w'
          go_simp
          with_reducible rfl
        rotate_left
        · simp only [Act.put, List.setIfInBounds_toArray, List.set_cons_zero, List.set_cons_succ, i64_w, i32_w]
          rfl
        refine pure_ (i := 11) (N := some 18) (v := ?_) (a' := ?_) #[true, true, true, true, true, true, true, true, true, true, true, true, false] rfl rfl (by kernel_rfl) (fun _ _ _ h => h) (Or.inl ⟨by rfl, ?_⟩) ?_ ?_
        rotate_left
        · intro w'
          go_simp
          with_reducible rfl
        rotate_left
        · simp only [Act.put, List.setIfInBounds_toArray, List.set_cons_zero, List.set_cons_succ, i64_w, i32_w]
          rfl
        refine pure_ (i := 12) (N := some 19) (v := ?_) (a' := ?_) #[true, true, true, true, true, true, true, true, true, true, true, true, true] rfl rfl (by kernel_rfl) (fun _ _ _ h => h) (Or.inl ⟨by rfl, ?_⟩) ?_ ?_
        rotate_left
        · intro w'
          go_simp
          with_reducible rfl
        rotate_left
        · simp only [Act.put, List.setIfInBounds_toArray, List.set_cons_zero, List.set_cons_succ, i64_w, i32_w]
          rfl
        refine done_ (by kernel_rfl) ?_

        go_wp2
        go_ret
        rw [HN.out]
        exact ⟨rfl, HEND.out _ (below_drew (Below.refl _ _))⟩

end Go.Proofs.Ytpkhpfgojhojaaa.PDk

namespace Go.Proofs.Ytpkhpfgojhojaaa.PDk
open Go.RowKit Go.Proofs.YtpkhpfgojhojaaaW.PrintWords Go.Proofs.YtpkhpfgojhojaaaW.PrintLast Go.Proofs.YtpkhpfgojhojaaaW.PrintMore
attribute [local go_sem] max2_int min2_int max_two min_two max_three min_three max_four min_four
set_option linter.unusedVariables false
set_option linter.unusedSimpArgs false
-- IMPORT: Derived.Test.@N@WOwn
-- IMPORT: Derived.Test.@N@DCrash
-- IMPORT: Derived.Test.@N@DNew
-- IMPORT: Derived.Test.@N@DWrite
set_option maxHeartbeats 1000000 in
theorem dk_num (a : Int) (w : World) : Calls Try.prog 10 #[.int .i64 a] w fun e w' => e = .returned (.int .i64 a) ∧ w = w' := by
  go_enter Try.func10, Try.ntmps10
  go_wp2
  go_ret
  exact ⟨rfl, rfl⟩
/-- A disk of an image that may be. -/
theorem dk_New_ok (A : Option Addr) (c m : Nat) (I : List Int) (T : Option Addr) (ct mt : Nat) (ts : List S45) (w : World) (hI : (Kd.int .u8).C w A m I) (hc : m ≤ c) (hT : Kd.C k45 w T mt ts) (hw : ∀ t ∈ ts, (Lit.int .i64 t.f0).wf = true) (hm : m % 64 = 0 ∧ 64 ≤ m ∧ m ≤ 1048576) (hg : ∀ t ∈ ts, 1 ≤ t.f0) :
    Calls Try.prog 9 #[.slice A m c, .slice T mt ct] w fun e w' => ∃ d, e = .returned (.tuple #[.pointer (some ⟨d, 0, none⟩), .int .i64 0]) ∧ DkAt w' w.heap.size (fun _ => True) d (Dk.new I ts) ∧ Below w.heap.size w w' := by
  obtain rfl : I.length = m := hI.1
  obtain rfl : ts.length = mt := hT.1
  refine (dk_New_may A c I T ct ts w hI hc hT hw hm).mono ?_
  rintro e w' ⟨hb, ⟨_, d, he, hd⟩ | ⟨hn, _⟩⟩
  · exact ⟨d, he, hd, hb⟩
  · exact absurd ⟨hm.1, hm.2.1, hm.2.2, hg⟩ hn
/-- A sector made since is written. -/
theorem dk_wsec {w0 w1 : World} {bd d c n : Nat} {ok : Nat → Prop} {x : Dk} {A : Option Addr} {b : List Int} (h : DkAt w0 bd ok d x) (hbd : bd ≤ w0.heap.size) (hb : Below w0.heap.size w0 w1) (hR : (Kd.int .u8).R 5 w1 w0.heap.size (fun _ => True) (.slice A n c) b) (i : Int) :
    Calls Try.prog 15 #[.pointer (some ⟨d, 0, none⟩), .int .i64 i, .slice A n c] w1 fun e w' => e = .returned (.int .i64 (x.write i b).2) ∧ DkAt w' bd ok d (x.write i b).1 ∧ Kept w0 w' ok ∧ Below bd w0 w' := by
  obtain ⟨hn, hc, hC⟩ := Kd.R_reads' hR
  subst hn
  have h1 := (h.bound).below hb
  refine (dk_Write d i A c b w1 bd _ x h1 (Nat.le_trans hbd hb.size) hC ?_).mono ?_
  · rintro ad rfl hk
    have := Kd.R_base hR ad.block rfl
    have := hk.2.2
    omega
  · rintro e w' ⟨he, hd, hk, hb'⟩
    exact ⟨he, hd.mono (fun k hk => hk.1), ((Kept.of_below hb ok).then_ hk (fun k hk => .inl hk.1)), (hb.mono hbd).trans hb'⟩
theorem R_C {w : World} {e base n c : Nat} {k : IntKind} {ok : Nat → Prop} {A : Option Addr} {xs : List Int} (h : (Kd.int k).R e w base ok (.slice A n c) xs) : n ≤ c ∧ (Kd.int k).C w A n xs := by
  obtain ⟨h1, h2, h3⟩ := Kd.R_reads' h
  subst h1
  exact ⟨h2, h3⟩

end Go.Proofs.Ytpkhpfgojhojaaa.PDk

namespace Go.Proofs.Ytpkhpfgojhojaaa.PDk
open Go.RowKit Go.Proofs.YtpkhpfgojhojaaaW.PrintWords Go.Proofs.YtpkhpfgojhojaaaW.PrintLast Go.Proofs.YtpkhpfgojhojaaaW.PrintMore
attribute [local go_sem] max2_int min2_int max_two min_two max_three min_three max_four min_four
set_option linter.unusedVariables false
set_option linter.unusedSimpArgs false
-- IMPORT: Derived.Test.@N@WOwn
-- IMPORT: Derived.Test.@N@DWords
def dk0 : Dk := Dk.new (List.replicate 128 0) []
theorem dk0_write : (dk0.write 1 (secOf 3)).2 = 0 := by kernel_rfl
theorem dk0_read : (dk0.write 1 (secOf 3)).1.read 1 = (secOf 3, 0) := by kernel_rfl
/-- make([]byte, m), with the block's cells under one name. -/
theorem mk_zero (m : Nat) (M : Int) (hM : M = (m : Int)) (hm : m ≤ 281474976710656) : ∃ z : List Int, z = List.replicate m 0 ∧ (∀ W : World, (Instr.makeSlice 30 (.int .i64 M) (.int .i64 M)).run Try.prog W = .ok (.slice (some ⟨W.heap.size, 0, none⟩) m m) (W.alloc (.cells (nums .u8 z).toArray 5))) ∧
    ∀ W : World, (Kd.int .u8).R 5 (W.alloc (.cells (nums .u8 z).toArray 5)) W.heap.size (fun _ => True) (.slice (some ⟨W.heap.size, 0, none⟩) m m) z := by
  refine ⟨_, rfl, fun W => ?_, fun W => ?_⟩
  · rw [hM, print_make (P := Try.prog) 30 5 .u8 1 Try.underlying30 info5 (by decide) m (by omega) W, made_nums]
  · have := R_of_blk (xs := List.replicate m (0 : Int)) (k := .u8) (blk_new W (.cells (nums .u8 (List.replicate m (0 : Int))).toArray 5)) (Nat.le_refl _) (by rw [List.length_replicate]; omega)
    rw [List.length_replicate] at this
    exact this
set_option maxHeartbeats 4000000 in
set_option maxRecDepth 100000 in
theorem dk_wakes (w : World) : Calls Try.prog 17 #[] w fun e w' => e = .returned (.bool true) ∧ Below w.heap.size w w' := by
  obtain ⟨z, hz, hmk, hR0⟩ := mk_zero 128 128 rfl (by decide)
  have HR0 := Aside0.mk (hR0 w)
  have HZ := Aside0.mk hz
  have HB0 := Aside0.mk (below_alloc (Below.refl w.heap.size w) (.cells (nums .u8 z).toArray 5))
  clear hz hR0
  go_enter Try.func17, Try.ntmps17
  go_wp2_with fail
  refine (dk_New_ok (some ⟨w.heap.size, 0, none⟩) 128 128 z none 0 0 [] _ (R_C HR0.out).2 (Nat.le_refl _) (Kd.C_nil _ _) (fun _ h => by cases h) (by decide) (fun _ h => by cases h)).mono ?_
  rintro e' w1 ⟨d, rfl, hd, hb⟩
  have HD := Aside0.mk hd
  have HDB := Aside0.mk hb.size
  have HB1 := Aside0.mk (below_step HB0.out hb)
  clear hd hb
  go_wp2_with (first | (go_at_call 10; refine (dk_num _ _).mono ?_; rintro e' w' ⟨rfl, rfl⟩))
  refine (dk_sector 3 _).mono ?_
  rintro e' ws1 ⟨vs1, rfl, hR, hb⟩
  obtain ⟨As1, cs1, rfl, _, _⟩ := Kd.R_reads hR
  have HW1 := Aside0.mk (dk_wsec HD.out HDB.out hb hR)
  clear hR hb
  go_wp2_with fail
  refine (HW1.out 1).mono ?_
  rintro e' w2 ⟨rfl, hd, hk, hb⟩
  rw [HZ.out] at hd
  have hv : ((Dk.new z []).write 1 (secOf 3)).2 = 0 := by rw [HZ.out]; exact dk0_write
  rw [hv]
  have HD2 := Aside0.mk hd
  have HB2 := Aside0.mk (HB1.out.trans (hb.mono HB0.out.size))
  clear hd hk hb hv
  go_wp2_with (first | (go_at_call 10; refine (dk_num _ _).mono ?_; rintro e' w' ⟨rfl, rfl⟩))
  refine (dk_Read d 1 _ _ _ _ HD2.out).mono ?_
  rintro e' w3 ⟨v, rfl, hR, hb⟩
  rw [show (Dk.new (List.replicate 128 0) []) = dk0 from rfl, dk0_read] at hR
  have hv : (((Dk.new (List.replicate 128 0) []).write 1 (secOf 3)).1.read 1).2 = 0 := congrArg Prod.snd dk0_read
  rw [hv]
  obtain ⟨Av, cv, rfl, hvc, hvC⟩ := Kd.R_reads hR
  have HVC := Aside0.mk hvC
  have HVL := Aside0.mk hvc
  have HB3 := Aside0.mk (below_step HB2.out hb)
  clear hR hb hv hvC hvc
  go_wp2_with (first | (go_at_call 10; refine (dk_num _ _).mono ?_; rintro e' w' ⟨rfl, rfl⟩))
  refine (dk_sector 3 _).mono ?_
  rintro e' w4 ⟨v2, rfl, hR, hb⟩
  obtain ⟨A2, c2, rfl, hc2, hC2⟩ := Kd.R_reads hR
  have HC2 := Aside0.mk hC2
  have HCL := Aside0.mk hc2
  have HVC4 := Aside0.mk (Kd.C_below HVC.out hb)
  have HB4 := Aside0.mk (below_step HB3.out hb)
  clear hR hb hC2 hc2
  go_wp2_with fail
  refine (dk_eqB Av cv (secOf 3) A2 c2 (secOf 3) _ HVC4.out HVL.out HC2.out HCL.out (by rw [length_secOf]; decide)).mono ?_
  rintro e' w5 ⟨rfl, ⟨nd, rfl⟩⟩
  rw [decide_eq_true rfl]
  go_wp2
  go_ret
  exact ⟨rfl, pw_below_drewN HB4.out _⟩

end Go.Proofs.Ytpkhpfgojhojaaa.PDk

namespace Go.Proofs.Ytpkhpfgojhojaaa.PDk
open Go.RowKit Go.Proofs.YtpkhpfgojhojaaaW.PrintWords Go.Proofs.YtpkhpfgojhojaaaW.PrintLast Go.Proofs.YtpkhpfgojhojaaaW.PrintMore
attribute [local go_sem] max2_int min2_int max_two min_two max_three min_three max_four min_four
set_option linter.unusedVariables false
set_option linter.unusedSimpArgs false
-- IMPORT: Derived.Test.@N@WOwn
-- IMPORT: Derived.Test.@N@DWakes
theorem sec_splice_same (L b : List Int) (i : Nat) (h : i * 64 + 64 ≤ L.length) (hb : b.length = 64) : sec (splice L (i * 64) b) i = b := by
  unfold sec splice
  rw [List.drop_append, List.length_take, List.drop_eq_nil_of_le (by rw [List.length_take]; omega), show i * 64 - min (i * 64) L.length = 0 by omega, List.drop_zero, List.nil_append, List.take_append_of_le_length (by omega), List.take_of_length_le (by omega)]
theorem sec_splice_other (L b : List Int) (i j : Nat) (h : i * 64 + 64 ≤ L.length) (hb : b.length = 64) (hij : i ≠ j) : sec (splice L (i * 64) b) j = sec L j := by
  apply List.ext_getElem?
  intro q
  unfold sec splice
  rw [List.getElem?_take, List.getElem?_take]
  split
  · rename_i hq
    rw [List.getElem?_drop, List.getElem?_drop, List.getElem?_append, List.length_take]
    split
    · rename_i h2
      rw [List.getElem?_take, if_pos (by omega)]
    · rename_i h2
      rw [List.getElem?_append, if_neg (by omega), List.getElem?_drop]
      congr 1
      omega
  · rfl
/-- Each sector that a crash leaves is the safe one or the seen one. -/
theorem crash_secs (S E : List Int) : ∀ (k i : Nat) (b ps : List Int), b.length = E.length → S.length = E.length → (i + k) * 64 ≤ E.length → (∀ j, j < i → sec b j = sec S j ∨ sec b j = sec E j) → (∀ j, i ≤ j → sec b j = sec S j) →
    ∀ j, j < i + k → sec (crashL S E k i b ps) j = sec S j ∨ sec (crashL S E k i b ps) j = sec E j
  | 0, i, b, ps, _, _, _, h1, h2, j, hj => h1 j (by omega)
  | k + 1, i, b, ps, hb, hs, hl, h1, h2, j, hj => by
    rw [crashL]
    split
    · exact crash_secs S E k (i + 1) b ps hb hs (by omega) (fun q hq => by
        by_cases e : q = i
        · exact .inl (h2 q (by omega))
        · exact h1 q (by omega)) (fun q hq => h2 q (by omega)) j (by omega)
    · split
      · exact crash_secs S E k (i + 1) b ps.tail hb hs (by omega) (fun q hq => by
          by_cases e : q = i
          · exact .inl (h2 q (by omega))
          · exact h1 q (by omega)) (fun q hq => h2 q (by omega)) j (by omega)
      · have hse : (sec E i).length = 64 := length_sec E i (by omega)
        exact crash_secs S E k (i + 1) (splice b (i * 64) (sec E i)) ps.tail (by rw [length_splice _ _ _ (by omega), hb]) hs (by omega) (fun q hq => by
          by_cases e : q = i
          · subst e; exact .inr (sec_splice_same b (sec E q) q (by omega) hse)
          · rw [sec_splice_other b (sec E i) i q (by omega) hse (fun e' => e e'.symm)]; exact h1 q (by omega)) (fun q hq => by
          rw [sec_splice_other b (sec E i) i q (by omega) hse (by omega)]; exact h2 q (by omega)) j (by omega)
theorem secOf_mod (b : Int) : secOf (b % 256) = secOf b := by
  unfold secOf
  apply List.map_congr_left
  intro i _
  unfold wrap64
  omega
theorem isOf_mod (b : Int) : isOf (b % 256) = secOf b := by
  unfold isOf
  rw [if_neg (by omega), secOf_mod]
theorem within_f (a : Int) (n : Nat) (h0 : 0 < n) (hn : n < 2147483648) : ∃ r : Int, gangwaylaw0_Within.f a (n : Int) = some r ∧ 0 ≤ r ∧ r < (n : Int) := by
  have e1 : IntKind.u64.wrap (n : Int) = (n : Int) := by show ((n : Int) % 18446744073709551616) = _; omega
  unfold gangwaylaw0_Within.f
  rw [e1, if_neg (by omega)]
  have h1 : 0 ≤ IntKind.u64.wrap a := by show 0 ≤ a % 18446744073709551616; omega
  have h2 : 0 ≤ Int.tmod (IntKind.u64.wrap a) (n : Int) := Int.tmod_nonneg _ h1
  have h3 : Int.tmod (IntKind.u64.wrap a) (n : Int) < (n : Int) := Int.tmod_lt_of_pos _ (by omega)
  refine ⟨_, rfl, ?_, ?_⟩ <;> (unfold wrap64; omega)
/-- What the law DiskSafe knows of the disk. -/
def SafeInv (x : Dk) (sl el : List Int) : Prop := x.off = false ∧ (∀ i, x.tr i = false) ∧ x.S.length = 384 ∧ x.E.length = 384 ∧ sl.length = 6 ∧ el.length = 6 ∧ ∀ j : Nat, j < 6 → sec x.S j = isOf (rd sl (j : Int)) ∧ sec x.E j = isOf (rd el (j : Int))
theorem safe_start : SafeInv (Dk.new (List.replicate 384 0) []) (List.replicate 6 (-1)) (List.replicate 6 (-1)) := by
  refine ⟨rfl, fun _ => rfl, List.length_replicate .., List.length_replicate .., rfl, rfl, fun j hj => ?_⟩
  have h1 : rd (List.replicate 6 (-1)) (j : Int) = -1 := by
    rw [rd_get _ _ (by rw [List.length_replicate]; exact hj), List.getElem_replicate]
  have h2 : sec (List.replicate 384 0) j = List.replicate 64 0 := by
    unfold sec
    rw [List.drop_replicate, List.take_replicate]
    congr 1
    omega
  rw [h1]
  exact ⟨h2, h2⟩
theorem safe_flush {x : Dk} {sl el : List Int} (h : SafeInv x sl el) : x.flush.2 = 0 ∧ SafeInv x.flush.1 el el := by
  obtain ⟨h1, h2, h3, h4, h5, h6, h7⟩ := h
  unfold Dk.flush
  rw [if_neg (by rw [h1]; decide), if_neg (by rw [h2]; decide)]
  exact ⟨rfl, h1, h2, h4, h4, h6, h6, fun j hj => ⟨(h7 j hj).2, (h7 j hj).2⟩⟩
theorem safe_write {x : Dk} {sl el : List Int} (h : SafeInv x sl el) (k : Nat) (hk : k < 6) (b : Int) : (x.write (k : Int) (secOf b)).2 = 0 ∧ SafeInv (x.write (k : Int) (secOf b)).1 sl (el.set k (b % 256)) := by
  obtain ⟨h1, h2, h3, h4, h5, h6, h7⟩ := h
  unfold Dk.write
  rw [if_pos ⟨by omega, by rw [h4]; omega, length_secOf b⟩, if_neg (by rw [h1]; decide), h2, Int.toNat_natCast]
  have hl : k * 64 + 64 ≤ x.E.length := by omega
  refine ⟨rfl, rfl, h2, h3, ?_, h5, by rw [List.length_set]; exact h6, fun j hj => ⟨(h7 j hj).1, ?_⟩⟩
  · show (splice x.E (k * 64) (secOf b)).length = 384
    rw [length_splice _ _ _ (by rw [length_secOf]; omega)]; exact h4
  · show sec (splice x.E (k * 64) (secOf b)) j = _
    have e : rd (el.set k (b % 256)) (j : Int) = if k = j then b % 256 else rd el (j : Int) := by
      unfold rd
      rw [Int.toNat_natCast, List.getD_eq_getElem?_getD, List.getD_eq_getElem?_getD, List.getElem?_set]
      by_cases e : k = j
      · subst e; simp [h6, hk]
      · simp [e]
    rw [e]
    by_cases e2 : k = j
    · subst e2
      rw [if_pos rfl, isOf_mod, sec_splice_same _ _ _ hl (length_secOf b)]
    · rw [if_neg e2, sec_splice_other _ _ _ _ hl (length_secOf b) e2]
      exact (h7 j hj).2
theorem safe_crash {x : Dk} {sl el : List Int} (h : SafeInv x sl el) (ps : List Int) : (x.crash ps).length = 384 ∧ ∀ j : Nat, j < 6 → sec (x.crash ps) j = isOf (rd sl (j : Int)) ∨ sec (x.crash ps) j = isOf (rd el (j : Int)) := by
  obtain ⟨h1, h2, h3, h4, h5, h6, h7⟩ := h
  unfold Dk.crash
  rw [h4]
  refine ⟨by rw [length_crashL _ _ _ _ _ _ (by rw [h4]; decide) (by rw [h3]; decide)]; exact h3, fun j hj => ?_⟩
  have := crash_secs x.S x.E (384 / 64) 0 x.S ps (by omega) (by omega) (by omega) (fun j hj => absurd hj (by omega)) (fun j _ => rfl) j (by omega)
  rw [(h7 j hj).1, (h7 j hj).2] at this
  exact this
theorem dk_is (A : Option Addr) (c : Nat) (s : List Int) (b : Int) (w : World) (hr : Kd.C (Kd.int .u8) w A 64 s) (hc : 64 ≤ c) : Calls Try.prog 14 #[.slice A 64 c, .int .i64 b] w fun e w' => e = .returned (.bool (decide (s = isOf b))) ∧ Below w.heap.size w w' := by
  have hl : s.length = 64 := hr.1
  have := gangwaylaw11_is.calls (s.length + 65) A c s b _ w (by rw [hl]; exact hr) (by omega) (is_f s b (by omega))
  rw [hl] at this
  exact this

end Go.Proofs.Ytpkhpfgojhojaaa.PDk

namespace Go.Proofs.Ytpkhpfgojhojaaa.PDk
open Go.RowKit Go.Proofs.YtpkhpfgojhojaaaW.PrintWords Go.Proofs.YtpkhpfgojhojaaaW.PrintLast Go.Proofs.YtpkhpfgojhojaaaW.PrintMore
attribute [local go_sem] max2_int min2_int max_two min_two max_three min_three max_four min_four
set_option linter.unusedVariables false
set_option linter.unusedSimpArgs false
-- IMPORT: Derived.Test.@N@WOwn
-- IMPORT: Derived.Test.@N@DSafepure
/-! ### The page's disk: what it is in memory, what each call makes of it. -/
structure Rk where
  S : List (List Int)
  E : List (List Int)
  ts : List S45
  off : Bool
  n : Int
def Rk.Fits (x : Rk) : Prop := x.S.length = x.E.length ∧ 0 < x.E.length ∧ x.E.length ≤ 16384 ∧ (∀ s ∈ x.S, s.length = 64) ∧ (∀ s ∈ x.E, s.length = 64)
def RkAt (w : World) (base : Nat) (ok : Nat → Prop) (r : Nat) (x : Rk) : Prop :=
  ∃ (gs cs ge ce : Nat) (vt : Value),
    w.heap[r]? = some (.cells #[.slice (some ⟨gs, 0, none⟩) x.S.length cs, .slice (some ⟨ge, 0, none⟩) x.E.length ce, vt, .bool x.off, .int .i64 x.n] 88 (0, 0)) ∧
    (Kd.slice 5 (Kd.int .u8)).R 30 w base (fun k => ok k ∧ k ≠ ge) (.slice (some ⟨gs, 0, none⟩) x.S.length cs) x.S ∧ (Kd.slice 5 (Kd.int .u8)).R 30 w base (fun k => ok k ∧ k ≠ gs) (.slice (some ⟨ge, 0, none⟩) x.E.length ce) x.E ∧
    Kd.R k45 45 w base ok vt x.ts ∧ base ≤ r ∧ ok r ∧ x.Fits
section
variable {w w' : World} {base r : Nat} {ok ok' S : Nat → Prop} {x : Rk}
theorem RkAt.mono (h : RkAt w base ok r x) (hok : ∀ k, ok k → ok' k) : RkAt w base ok' r x := by
  obtain ⟨gs, cs, ge, ce, vt, h1, h2, h3, h4, h5, h6, h7⟩ := h
  exact ⟨gs, cs, ge, ce, vt, h1, Kd.R_mono h2 (fun k hk => ⟨hok k hk.1, hk.2⟩), Kd.R_mono h3 (fun k hk => ⟨hok k hk.1, hk.2⟩), Kd.R_mono h4 hok, h5, hok _ h6, h7⟩
theorem RkAt.bound (h : RkAt w base ok r x) : RkAt w base (fun k => ok k ∧ base ≤ k ∧ k < w.heap.size) r x := by
  obtain ⟨gs, cs, ge, ce, vt, h1, h2, h3, h4, h5, h6, h7⟩ := h
  exact ⟨gs, cs, ge, ce, vt, h1, Kd.R_mono (Kd.R_bound h2) (fun k hk => ⟨⟨hk.1.1, hk.2.1, hk.2.2.1⟩, hk.1.2⟩), Kd.R_mono (Kd.R_bound h3) (fun k hk => ⟨⟨hk.1.1, hk.2.1, hk.2.2.1⟩, hk.1.2⟩), Kd.R_mono (Kd.R_bound h4) (fun k hk => ⟨hk.1, hk.2.1, hk.2.2.1⟩), h5, ⟨h6, h5, blk_lt h1⟩, h7⟩
theorem RkAt.kept (h : RkAt w base ok r x) (hk : Kept w w' S) (hne : ∀ k, ok k → ¬ S k) : RkAt w' base ok r x := by
  obtain ⟨gs, cs, ge, ce, vt, h1, h2, h3, h4, h5, h6, h7⟩ := h
  exact ⟨gs, cs, ge, ce, vt, blk_kept h1 hk (hne _ h6), Kd.R_kept h2 hk (fun k hk => hne k hk.1), Kd.R_kept h3 hk (fun k hk => hne k hk.1), Kd.R_kept h4 hk hne, h5, h6, h7⟩
theorem RkAt.below (h : RkAt w base ok r x) (hb : Below w.heap.size w w') : RkAt w' base ok r x := h.kept (Kept.of_below hb (fun _ => False)) (fun _ _ h => h)
theorem RkAt.fits (h : RkAt w base ok r x) : x.Fits := by
  obtain ⟨gs, cs, ge, ce, vt, h1, h2, h3, h4, h5, h6, h7⟩ := h
  exact h7
theorem RkAt.ok_r (h : RkAt w base ok r x) : ok r ∧ base ≤ r := by
  obtain ⟨gs, cs, ge, ce, vt, h1, h2, h3, h4, h5, h6, h7⟩ := h
  exact ⟨h6, h5⟩
theorem RkAt.set_n (h : RkAt w base ok r x) (m : Int) : RkAt (w.setCell ⟨r, 4, none⟩ (.int .i64 m)) base ok r { x with n := m } := by
  obtain ⟨gs, cs, ge, ce, vt, h1, h2, h3, h4, h5, h6, h7⟩ := h
  exact ⟨gs, cs, ge, ce, vt, blk_set h1 4 _, Kd.R_set h2 h1 (by decide) 4 _, Kd.R_set h3 h1 (by decide) 4 _, Kd.R_set h4 h1 (by decide) 4 _, h5, h6, h7⟩
theorem RkAt.set_off (h : RkAt w base ok r x) (m : Bool) : RkAt (w.setCell ⟨r, 3, none⟩ (.bool m)) base ok r { x with off := m } := by
  obtain ⟨gs, cs, ge, ce, vt, h1, h2, h3, h4, h5, h6, h7⟩ := h
  exact ⟨gs, cs, ge, ce, vt, blk_set h1 3 _, Kd.R_set h2 h1 (by decide) 3 _, Kd.R_set h3 h1 (by decide) 3 _, Kd.R_set h4 h1 (by decide) 3 _, h5, h6, h7⟩
theorem RkAt.cells (h : RkAt w base ok r x) : ∃ A0 c0 A1 c1 A2 c2, w.cell? ⟨r, 0, none⟩ = some (.slice A0 x.S.length c0) ∧ w.cell? ⟨r, 1, none⟩ = some (.slice A1 x.E.length c1) ∧ w.cell? ⟨r, 2, none⟩ = some (.slice A2 x.ts.length c2) ∧ w.cell? ⟨r, 3, none⟩ = some (.bool x.off) ∧ w.cell? ⟨r, 4, none⟩ = some (.int .i64 x.n) ∧ w.frozen? ⟨r, 3, none⟩ = false ∧ w.frozen? ⟨r, 4, none⟩ = false ∧
    (Kd.slice 5 (Kd.int .u8)).C w A0 x.S.length x.S ∧ (Kd.slice 5 (Kd.int .u8)).C w A1 x.E.length x.E ∧ Kd.C k45 w A2 x.ts.length x.ts ∧ x.ts.length ≤ c2 := by
  obtain ⟨gs, cs, ge, ce, vt, h1, h2, h3, h4, h5, h6, h7⟩ := h
  obtain ⟨A, c, rfl, hc, hC⟩ := Kd.R_reads h4
  exact ⟨_, cs, _, ce, A, c, (blk_cell h1 0).trans rfl, (blk_cell h1 1).trans rfl, (blk_cell h1 2).trans rfl, (blk_cell h1 3).trans rfl, (blk_cell h1 4).trans rfl, blk_frozen h1 3, blk_frozen h1 4, (Kd.R_reads' h2).2.2, (Kd.R_reads' h3).2.2, hC, hc⟩
end
def Rk.stroke (x : Rk) : Rk × Bool × Bool := if x.off = true then ({ x with n := wrap64 (x.n + 1) }, false, true) else ({ x with n := wrap64 (x.n + 1), off := trOf x.ts (wrap64 (x.n + 1)) }, true, trOf x.ts (wrap64 (x.n + 1)))
set_option maxHeartbeats 4000000 in
set_option maxRecDepth 100000 in
theorem rk_stroke (r : Nat) (w : World) (base : Nat) (ok : Nat → Prop) (x : Rk) (h : RkAt w base ok r x) :
    Calls Try.prog 55 #[.pointer (some ⟨r, 0, none⟩)] w fun e w' => e = .returned (.tuple #[.bool x.stroke.2.1, .bool x.stroke.2.2]) ∧ RkAt w' base ok r x.stroke.1 ∧ Kept w w' ok ∧ Below base w w' := by
  obtain ⟨nn, hnn⟩ : ∃ nn, nn = wrap64 (x.n + 1) := ⟨_, rfl⟩
  have hnx := hnn.symm
  have HNN := Aside0.mk hnn
  have H1 := Aside0.mk (h.set_n nn)
  have HOK := Aside0.mk h.ok_r
  have HK1 := Aside0.mk ((Kept.refl w ok).setCell (p := ⟨r, 4, none⟩) (.inl h.ok_r.1) (.int .i64 nn))
  have HB1 := Aside0.mk ((Below.refl base w).setCell (p := ⟨r, 4, none⟩) h.ok_r.2 (.int .i64 nn))
  obtain ⟨A0, c0, A1, c1, A2, c2, _, _, _, hy3, hy4, hg3, hg4, _, _, hC2, hl2⟩ := h.cells
  have HC2 := Aside0.mk hC2
  have htm := hC2.2.1
  have hds := Try.underlying88
  have hts := Try.underlying45
  clear h hnn hC2
  cases ho : x.off with
  | true =>
    rw [ho] at hy3
    have HO := Aside0.mk ho
    clear ho
    go_enter Try.func55, Try.ntmps55
    go_wp2
    go_ret2
    unfold Rk.stroke
    rw [if_pos HO.out, ← HNN.out]
    exact ⟨rfl, H1.out, HK1.out, HB1.out⟩
  | false =>
    rw [ho] at hy3
    have HO := Aside0.mk ho
    have HI0 : Aside0 (RkAt (w.setCell ⟨r, 4, none⟩ (.int .i64 nn)) base ok r { x with n := nn, off := trOf (x.ts.take 0) nn }) := ⟨by have := H1.out; rw [show trOf (x.ts.take 0) nn = x.off by rw [ho]; rfl]; exact this⟩
    clear ho
    go_enter Try.func55, Try.ntmps55
    go_wp2
    go_loopw [4] (fun v4 w' => ∃ i : Nat, i ≤ x.ts.length ∧ v4 = .int .i64 i ∧ Aside0 (RkAt w' base ok r { x with n := nn, off := trOf (x.ts.take i) nn }) ∧ Aside0 (Kept w w' ok) ∧ Aside0 (Below base w w')) (fun v4 _ => x.ts.length - (intOf v4).toNat)
    case atStart => exact ⟨0, Nat.zero_le _, rfl, HI0, HK1, HB1⟩
    case round =>
      clear hy3 hy4 hg3 hg4 HI0 H1 HK1 HB1
      obtain ⟨i, hi, rfl, HD, HK, HB⟩ := hrel
      obtain ⟨A0, c0, A1, c1, A2, c2, _, _, hy2, hy3, hy4, hg3, hg4, _, _, hC2, hl2⟩ := HD.out.cells
      have HC2 := Aside0.mk hC2
      clear hC2
      by_cases hlt : i < x.ts.length
      · obtain ⟨ad, rfl, hq⟩ := at_T45 HC2.out (i : Int) (by omega) (by show (i : Int) < (x.ts.length : Int); omega)
        rw [Int.toNat_natCast] at hq
        obtain ⟨q, hqq⟩ : ∃ q, q = (rd_T45 x.ts (i : Int)).f0 := ⟨_, rfl⟩
        have hq' : wr.cell? (ad.add i) = some (.int .i64 q) := by rw [hqq]; exact hq
        have HTR : Aside0 (trOf (x.ts.take (i + 1)) nn = (trOf (x.ts.take i) nn || q == nn)) := ⟨by rw [trOf_next nn hlt, hqq]⟩
        clear hq hqq
        by_cases hqe : q = nn
        · have u1 : (q == nn) = true := by simpa using hqe
          have HT2 : Aside0 (trOf (x.ts.take (i + 1)) nn = true) := ⟨by rw [HTR.out, u1, Bool.or_true]⟩
          clear hqe
          go_upto_region 7 with (fail)
          go_quiet (fail)
          go_wp2
          go_roundw
          case rel =>
            refine ⟨i + 1, by omega, by go_num, ⟨?_⟩, ⟨(Kept.drewN HK.out _).setCell (p := ⟨r, 3, none⟩) (.inl HOK.out.1) _⟩, ⟨(pw_below_drewN HB.out _).setCell (p := ⟨r, 3, none⟩) HOK.out.2 _⟩⟩
            rw [HT2.out]
            exact (HD.out.set_off true).below (pw_below_drewN (Below.refl _ _) _)
          case measure => simp [intOf]; omega
        · have u1 : (q == nn) = false := by simpa using hqe
          have HT2 : Aside0 (trOf (x.ts.take (i + 1)) nn = trOf (x.ts.take i) nn) := ⟨by rw [HTR.out, u1, Bool.or_false]⟩
          clear hqe
          go_upto_region 7 with (fail)
          go_quiet (fail)
          go_wp2
          go_roundw
          case rel =>
            refine ⟨i + 1, by omega, by go_num, ⟨?_⟩, ⟨Kept.drewN HK.out _⟩, ⟨pw_below_drewN HB.out _⟩⟩
            rw [HT2.out]
            exact HD.out.below (pw_below_drewN (Below.refl _ _) _)
          case measure => simp [intOf]; omega
      · have he : x.ts.take i = x.ts := List.take_of_length_le (by omega)
        rw [he] at HD hy3
        clear he
        go_upto_region 9 with (fail)
        go_quiet (fail)
        go_wp2
        go_ret2
        unfold Rk.stroke
        rw [if_neg (by rw [HO.out]; decide), ← HNN.out]
        exact ⟨rfl, HD.out.below (pw_below_drewN (Below.refl _ _) _), Kept.drewN HK.out _, pw_below_drewN HB.out _⟩

end Go.Proofs.Ytpkhpfgojhojaaa.PDk

namespace Go.Proofs.Ytpkhpfgojhojaaa.PDk
open Go.RowKit Go.Proofs.YtpkhpfgojhojaaaW.PrintWords Go.Proofs.YtpkhpfgojhojaaaW.PrintLast Go.Proofs.YtpkhpfgojhojaaaW.PrintMore
attribute [local go_sem] max2_int min2_int max_two min_two max_three min_three max_four min_four   -- for this text's walks alone
set_option linter.unusedVariables false
set_option linter.unusedSimpArgs false

/-! ### gangwayref0_CopyBytes: function 20 -/
def gangwayref0_CopyBytes.l0 : Nat → List Int → List Int → Int → Option (List Int)
  | 0, _, _, _ => none
  | k + 1, x0, x3, x4 => if x4 < (x0.length : Int) then (if 0 ≤ x4 then (if x3.length < 140737488355328 then (gangwayref0_CopyBytes.l0 k x0 (x3 ++ [rd x0 x4]) (wrap64 (x4 + 1))) else (none)) else (none)) else (some x3)
def gangwayref0_CopyBytes.f (k : Nat) (l0 : List Int) : Option (List Int) := gangwayref0_CopyBytes.l0 k l0 ([] : List Int) 0
theorem gangwayref0_CopyBytes.mono_l : ∀ k, (∀ y0 y1 y2, LeO (gangwayref0_CopyBytes.l0 k y0 y1 y2) (gangwayref0_CopyBytes.l0 (k + 1) y0 y1 y2))
  | 0 => fun _ _ _ r h => by simp [gangwayref0_CopyBytes.l0] at h
  | k + 1 => by
    have ih0 := gangwayref0_CopyBytes.mono_l k
    · intro y0 y1 y2
      unfold gangwayref0_CopyBytes.l0
      repeat' first
      | (with_reducible exact ih0 _ _ _)
      | (with_reducible exact LeO.refl _)
      | (with_reducible exact LeO.none _)
      | (with_reducible refine LeO.ite ?_ ?_)
      | (with_reducible refine LeO.bind ?_ (fun _ => ?_))
      | exact ih0 _ _ _
      | exact LeO.none _
      | refine LeO.ite ?_ ?_
      | refine LeO.bind ?_ (fun _ => ?_)
theorem gangwayref0_CopyBytes.mono : ∀ a0 k, LeO (gangwayref0_CopyBytes.f k a0) (gangwayref0_CopyBytes.f (k + 1) a0) := by
  intro a0 k
  have ih0 := gangwayref0_CopyBytes.mono_l k
  unfold gangwayref0_CopyBytes.f
  repeat' first
      | (with_reducible exact ih0 _ _ _)
      | (with_reducible exact LeO.refl _)
      | (with_reducible exact LeO.none _)
      | (with_reducible refine LeO.ite ?_ ?_)
      | (with_reducible refine LeO.bind ?_ (fun _ => ?_))
      | exact ih0 _ _ _
      | exact LeO.none _
      | refine LeO.ite ?_ ?_
      | refine LeO.bind ?_ (fun _ => ?_)
set_option maxHeartbeats 8000000 in
set_option maxRecDepth 100000 in
theorem gangwayref0_CopyBytes.calls (k : Nat) (A0 : Option Addr) (c0 : Nat) (l0 : List Int) (r : List Int) (w : World) (hr0 : Kd.C (Kd.int .u8) w A0 l0.length l0) (hc0 : l0.length ≤ c0) (h : gangwayref0_CopyBytes.f k l0 = some r) :
    Calls Try.prog 20 #[.slice A0 l0.length c0] w fun e w' => ∃ v0_ : Value, e = .returned (v0_) ∧ Kd.R (Kd.int .u8) 5 w' w.heap.size (fun _ => True) v0_ r ∧ Below w.heap.size w w' := by
  have HR0 := Aside0.mk hr0
  have HC0 := Aside0.mk hc0
  clear hr0 hc0
  have HB := Aside0.mk (Below.refl w.heap.size w)
  have H : (gangwayref0_CopyBytes.l0 k l0 ([] : List Int) 0) = some r := h
  clear h
  have H' := Aside0.mk H
  clear H
  go_enter Try.func20, Try.ntmps20
  go_wp2
  go_loopg [3, 4] k (fun kq v3 v4 w' => ∃ (x3_1 : List Int) (x4_1 : Int), v4 = .int .i64 x4_1 ∧ Aside0 (gangwayref0_CopyBytes.l0 kq l0 x3_1 x4_1 = some r) ∧ Aside0 (kq ≤ k) ∧ Aside0 (Kd.R (Kd.int .u8) 5 w' w.heap.size (fun _ => True) v3 x3_1) ∧ Aside0 (Below w.heap.size w w'))
  case atStart => exact ⟨(([] : List Int)), (0), (by first | rfl | (simp; done) | (simp [*]; done)), H', ⟨Nat.le_refl _⟩, ⟨by first | exact Kd.R_nil _ _ _ _ _ | exact Kd.N_nil _ _ _ _ _ | exact Kd.V_nil _ _ _ _ _ | exact Kd.Q_nil _ _ _ _ _ | exact Kd.S_nil _ _ _ _ _⟩, ⟨by repeat (first | (with_reducible first | exact HB.out | apply below_alloc | apply pw_below_drewN | apply below_drew1) | exact HB.out)⟩⟩
  case round =>
    clear H'
    obtain ⟨x3_1, x4_1, rfl, HA, HK1, HO_3, HB⟩ := hrel
    cases gk with
    | zero => exact absurd HA.out (by simp [gangwayref0_CopyBytes.l0])
    | succ k1 =>
      have H := HA.out
      clear HA
      simp only [gangwayref0_CopyBytes.l0] at H
      by_cases c2 : x4_1 < (l0.length : Int)
      · rw [if_pos c2] at H
        have c2b0 : decide (x4_1 < (l0.length : Int)) = true := decide_eq_true c2
        clear c2
        by_cases c3 : 0 ≤ x4_1
        · rw [if_pos c3] at H
          have c3b0 : decide (0 ≤ x4_1) = true := decide_eq_true c3
          clear c3
          by_cases c4 : x3_1.length < 140737488355328
          · rw [if_pos c4] at H
            have LMc4 := Aside0.mk c4
            clear c4
            obtain ⟨y136, hy136⟩ : ∃ y_ : List Int, y_ = (x3_1 ++ [rd l0 x4_1]) := ⟨_, rfl⟩
            replace H : (gangwayref0_CopyBytes.l0 k1 l0 y136 (wrap64 (x4_1 + 1))) = some r := by first | (rw [hy136]; with_reducible exact H) | (have H2_ := (Option.bind_some _ _).symm.trans H; rw [hy136]; with_reducible exact H2_) | (have H2_ := (Option.bind_some _ _).symm.trans H; with_reducible exact H2_) | with_reducible exact H | (rw [hy136]; exact H) | exact H
            have Ny136 := Aside0.mk hy136
            clear hy136
            have H' := Aside0.mk H
            clear H
            have p135 : 0 ≤ (x4_1 : Int) := of_decide_eq_true (by first | (with_reducible assumption) | assumption)
            have q135 : x4_1 < (l0.length : Int) := of_decide_eq_true (by first | (with_reducible assumption) | assumption)
            obtain ⟨ad135, e135, hx135_0⟩ := Kd.at_int HR0.out x4_1 p135 q135
            cases e135
            replace hx135_0 := (HB.out.cell (World.block_lt_of_cell? w _ hx135_0)).trans hx135_0
            replace p135 := eq_true p135
            replace q135 := eq_true q135
            go_wp2_with (first | ((with_reducible refine gate_builtin (b := .append) (xs := #[.tmp 11, .tmp 16]) rfl ?_); at_builtin; refine Kd.R_append (Kd.int .u8) (w0 := w) w.heap.size rfl (.tmp 11) (.tmp 16) 30 5 (.int .u8 0) 1 rfl Try.underlying30 info5 rfl (by decide) (by omega) u3 x3_1 (rd l0 x4_1) [.int .u8 (rd l0 x4_1)] (fun _ => True) (fun _ => False) rfl rfl ?aP (fun _ hk => hk.elim) ?aF ?aO ?aB ?aS ?aL ?_; (case aP => exact rfl); (case aB => exact (by repeat (first | (with_reducible first | exact HB.out | apply below_alloc | apply pw_below_drewN | apply below_drew1) | exact HB.out))); (case aF => exact (fun _ _ => trivial)); (case aO => exact (by (with_reducible repeat (first | apply Kd.R_alloc | apply Kd.R_drewN | apply Kd.R_drew)); exact HO_3.out)); (case aS => exact (below_size (by repeat (first | (with_reducible first | exact HB.out | apply below_alloc | apply pw_below_drewN | apply below_drew1) | exact HB.out)))); (case aL => have := LMc4.out; omega); intro v137 w5 ho hb hg hat; rw [← Ny136.out] at ho; have n0_ := Aside0.mk (hb); have n1_ := Aside0.mk (ho); clear HB; clear HO_3; have HB := n0_; have HO138 := n1_; clear n0_ n1_; clear ho hb hg hat))
            go_roundg k1
            case measure => have := HK1.out; omega
            case rel => exact ⟨(y136), (wrap64 (x4_1 + 1)), (by first | rfl | (simp; done) | (simp [*]; done)), H', ⟨by have := HK1.out; omega⟩, ⟨by (with_reducible repeat (first | apply Kd.R_alloc | apply Kd.R_drewN | apply Kd.R_drew)); exact HO138.out⟩, ⟨by repeat (first | (with_reducible first | exact HB.out | apply below_alloc | apply pw_below_drewN | apply below_drew1) | exact HB.out)⟩⟩
          · rw [if_neg c4] at H
            exact absurd H (by simp)
        · rw [if_neg c3] at H
          exact absurd H (by simp)
      · rw [if_neg c2] at H
        have c2b0 : decide (x4_1 < (l0.length : Int)) = false := decide_eq_false c2
        clear c2
        obtain rfl := Option.some.inj H
        go_wp2
        go_ret
        exact ⟨_, by first | rfl | (simp [errW_none, errW_some] <;> rfl) | (simp [*, errW_none, errW_some] <;> rfl), by (with_reducible repeat (first | apply Kd.R_alloc | apply Kd.R_drewN | apply Kd.R_drew)); exact HO_3.out, by repeat (first | (with_reducible first | exact HB.out | apply below_alloc | apply pw_below_drewN | apply below_drew1) | exact HB.out)⟩

end Go.Proofs.Ytpkhpfgojhojaaa.PDk

namespace Go.Proofs.Ytpkhpfgojhojaaa.PDk
open Go.RowKit Go.Proofs.YtpkhpfgojhojaaaW.PrintWords Go.Proofs.YtpkhpfgojhojaaaW.PrintLast Go.Proofs.YtpkhpfgojhojaaaW.PrintMore
attribute [local go_sem] max2_int min2_int max_two min_two max_three min_three max_four min_four
set_option linter.unusedVariables false
set_option linter.unusedSimpArgs false
-- IMPORT: Derived.Test.@N@WOwn
-- IMPORT: Derived.Test.@N@DRef
theorem seg1 {W : World} {e base g n cap : Nat} {ok okp : Nat → Prop} {xs : List (List Int)} (h : (Kd.slice 5 (Kd.int .u8)).R e W base ok (.slice (some ⟨g, 0, none⟩) n cap) xs) (i : Nat) (hi : i < n) (v : Value) (ys : List Int) (hM : (Kd.int .u8).R 5 W base okp v ys) (hokp : ∀ k, okp k → ok k ∧ k ≠ g) :
    (Kd.slice 5 (Kd.int .u8)).R e (W.setCell ⟨g, i, none⟩ v) base ok (.slice (some ⟨g, 0, none⟩) n cap) (xs.set i ys) ∧ W.grownBy (W.setCell ⟨g, i, none⟩ v) (some g) := by
  obtain ⟨c, hcl, _, hcc, _⟩ := Kd.R_elem h [] (i : Int) (by omega) (by omega)
  have hcl1 : c.length = 1 := hcl
  have := Kd.R_seg (okp := okp) h (i : Int) (by omega) (by omega) (c := c) (seg := [v]) (j := 0) hcl hcc (by show 0 + 1 ≤ 1; omega) (x' := ys) (by
    rw [List.take_zero, List.nil_append, List.drop_eq_nil_of_le (by rw [hcl1]; show 1 ≤ 0 + 1; omega), List.append_nil]
    exact ⟨v, rfl, hM⟩) hokp
  rw [Int.toNat_natCast, show i * (Kd.slice 5 (Kd.int .u8)).sz + 0 = i by show i * 1 + 0 = i; omega] at this
  exact this
theorem take_next {α : Type} (a : List α) (i : Nat) (h : i < a.length) : a.take i ++ [a[i]] = a.take (i + 1) := by
  rw [List.take_succ_eq_append_getElem h]
theorem copyB_l0 (a : List Int) (hm : a.length < 140737488355328) : ∀ (d i : Nat), i + d = a.length → gangwayref0_CopyBytes.l0 (d + 1) a (a.take i) (i : Int) = some a
  | 0, i, h => by rw [gangwayref0_CopyBytes.l0, if_neg (by omega), List.take_of_length_le (by omega)]
  | d + 1, i, h => by
    rw [gangwayref0_CopyBytes.l0, if_pos (by omega), if_pos (by omega), if_pos (by rw [List.length_take]; omega), up64 (by omega), rd_get a i (by omega), take_next a i (by omega)]
    exact copyB_l0 a hm d (i + 1) (by omega)
theorem dk_copyB (A : Option Addr) (c : Nat) (l : List Int) (w : World) (hC : (Kd.int .u8).C w A l.length l) (hc : l.length ≤ c) (hm : l.length < 140737488355328) :
    Calls Try.prog 20 #[.slice A l.length c] w fun e w' => ∃ v : Value, e = .returned v ∧ (Kd.int .u8).R 5 w' w.heap.size (fun _ => True) v l ∧ Below w.heap.size w w' :=
  gangwayref0_CopyBytes.calls (l.length + 1) A c l l w hC hc (copyB_l0 l hm l.length 0 (by omega))
section
variable {w : World} {base r gs cs ge ce i : Nat} {ok okv : Nat → Prop} {x : Rk} {vt v : Value} {b : List Int}
theorem rk_setE (h1 : w.heap[r]? = some (.cells #[.slice (some ⟨gs, 0, none⟩) x.S.length cs, .slice (some ⟨ge, 0, none⟩) x.E.length ce, vt, .bool x.off, .int .i64 x.n] 88 (0, 0)))
    (h2 : (Kd.slice 5 (Kd.int .u8)).R 30 w base (fun k => ok k ∧ k ≠ ge) (.slice (some ⟨gs, 0, none⟩) x.S.length cs) x.S) (h3 : (Kd.slice 5 (Kd.int .u8)).R 30 w base (fun k => ok k ∧ k ≠ gs) (.slice (some ⟨ge, 0, none⟩) x.E.length ce) x.E)
    (h4 : Kd.R k45 45 w base ok vt x.ts) (h5 : base ≤ r) (h6 : ok r) (h7 : x.Fits) (hi : i < x.E.length) (hb : b.length = 64) (hv : (Kd.int .u8).R 5 w base okv v b) (hokv : ∀ k, okv k → (ok k ∧ k ≠ gs) ∧ k ≠ ge) :
    RkAt (w.setCell ⟨ge, i, none⟩ v) base ok r { x with E := x.E.set i b } ∧ Kept w (w.setCell ⟨ge, i, none⟩ v) ok ∧ Below base w (w.setCell ⟨ge, i, none⟩ v) := by
  obtain ⟨hs, hg⟩ := seg1 h3 i hi v b hv hokv
  obtain ⟨cells, hge⟩ := Kd.R_typed h3 ge rfl
  have hr : r ≠ ge := blk_ne h1 hge (by decide)
  refine ⟨⟨gs, cs, ge, ce, vt, ?_, Kd.R_far (p := ⟨ge, i, none⟩) h2 (fun k hk => hk.2) v, ?_, Kd.R_set h4 hge (by decide) i v, h5, h6, ?_⟩, (Kept.refl w ok).setCell (p := ⟨ge, i, none⟩) (.inl (h3.1 ge rfl).1) v, (Below.refl base w).setCell (p := ⟨ge, i, none⟩) (Kd.R_base h3 ge rfl) v⟩
  · show (w.setCell _ v).heap[r]? = some (.cells #[_, .slice _ (x.E.set i b).length _, _, _, _] _ _)
    rw [List.length_set]
    exact blk_far h1 (p := ⟨ge, i, none⟩) hr v
  · show (Kd.slice 5 (Kd.int .u8)).R _ _ base _ (.slice _ (x.E.set i b).length _) (x.E.set i b)
    rw [List.length_set]
    exact hs
  · refine ⟨by show _ = (x.E.set i b).length; rw [List.length_set]; exact h7.1, by show 0 < (x.E.set i b).length; rw [List.length_set]; exact h7.2.1, by show (x.E.set i b).length ≤ _; rw [List.length_set]; exact h7.2.2.1, h7.2.2.2.1, fun s hs => ?_⟩
    rcases List.mem_or_eq_of_mem_set hs with h | h
    · exact h7.2.2.2.2 s h
    · rw [h]; exact hb
theorem rk_setS (h1 : w.heap[r]? = some (.cells #[.slice (some ⟨gs, 0, none⟩) x.S.length cs, .slice (some ⟨ge, 0, none⟩) x.E.length ce, vt, .bool x.off, .int .i64 x.n] 88 (0, 0)))
    (h2 : (Kd.slice 5 (Kd.int .u8)).R 30 w base (fun k => ok k ∧ k ≠ ge) (.slice (some ⟨gs, 0, none⟩) x.S.length cs) x.S) (h3 : (Kd.slice 5 (Kd.int .u8)).R 30 w base (fun k => ok k ∧ k ≠ gs) (.slice (some ⟨ge, 0, none⟩) x.E.length ce) x.E)
    (h4 : Kd.R k45 45 w base ok vt x.ts) (h5 : base ≤ r) (h6 : ok r) (h7 : x.Fits) (hi : i < x.S.length) (hb : b.length = 64) (hv : (Kd.int .u8).R 5 w base okv v b) (hokv : ∀ k, okv k → (ok k ∧ k ≠ ge) ∧ k ≠ gs) :
    RkAt (w.setCell ⟨gs, i, none⟩ v) base ok r { x with S := x.S.set i b } ∧ Kept w (w.setCell ⟨gs, i, none⟩ v) ok ∧ Below base w (w.setCell ⟨gs, i, none⟩ v) := by
  obtain ⟨hs, hg⟩ := seg1 h2 i hi v b hv hokv
  obtain ⟨cells, hge⟩ := Kd.R_typed h2 gs rfl
  have hr : r ≠ gs := blk_ne h1 hge (by decide)
  refine ⟨⟨gs, cs, ge, ce, vt, ?_, ?_, Kd.R_far (p := ⟨gs, i, none⟩) h3 (fun k hk => hk.2) v, Kd.R_set h4 hge (by decide) i v, h5, h6, ?_⟩, (Kept.refl w ok).setCell (p := ⟨gs, i, none⟩) (.inl (h2.1 gs rfl).1) v, (Below.refl base w).setCell (p := ⟨gs, i, none⟩) (Kd.R_base h2 gs rfl) v⟩
  · show (w.setCell _ v).heap[r]? = some (.cells #[.slice _ (x.S.set i b).length _, _, _, _, _] _ _)
    rw [List.length_set]
    exact blk_far h1 (p := ⟨gs, i, none⟩) hr v
  · show (Kd.slice 5 (Kd.int .u8)).R _ _ base _ (.slice _ (x.S.set i b).length _) (x.S.set i b)
    rw [List.length_set]
    exact hs
  · refine ⟨by show (x.S.set i b).length = _; rw [List.length_set]; exact h7.1, h7.2.1, h7.2.2.1, fun s hs => ?_, h7.2.2.2.2⟩
    rcases List.mem_or_eq_of_mem_set hs with h | h
    · exact h7.2.2.2.1 s h
    · rw [h]; exact hb
end
def doneN (a : Bool) : Int := if a = true then 103 else 0
set_option maxHeartbeats 1000000 in
theorem rk_done (a : Bool) (w : World) : Calls Try.prog 56 #[.bool a] w fun e w' => e = .returned (.int .i64 (doneN a)) ∧ w = w' := by
  cases a
  all_goals
    go_enter Try.func56, Try.ntmps56
    go_wp2
    go_ret
    exact ⟨rfl, rfl⟩
set_option maxHeartbeats 1000000 in
theorem rk_strokes (r : Nat) (w : World) (base : Nat) (ok : Nat → Prop) (x : Rk) (h : RkAt w base ok r x) :
    Calls Try.prog 29 #[.pointer (some ⟨r, 0, none⟩)] w fun e w' => e = .returned (.int .i64 x.n) ∧ w = w' := by
  obtain ⟨A0, c0, A1, c1, A2, c2, _, _, _, _, hy4, _⟩ := h.cells
  have hds := Try.underlying88
  clear h
  go_enter Try.func29, Try.ntmps29
  go_wp2
  go_ret
  exact ⟨rfl, rfl⟩
set_option maxHeartbeats 1000000 in
theorem rk_count (r : Nat) (w : World) (base : Nat) (ok : Nat → Prop) (x : Rk) (h : RkAt w base ok r x) :
    Calls Try.prog 31 #[.pointer (some ⟨r, 0, none⟩)] w fun e w' => e = .returned (.int .i64 (x.E.length : Int)) ∧ w = w' := by
  obtain ⟨A0, c0, A1, c1, A2, c2, _, hy1, _⟩ := h.cells
  have hds := Try.underlying88
  clear h
  go_enter Try.func31, Try.ntmps31
  go_wp2
  go_ret
  exact ⟨rfl, rfl⟩

end Go.Proofs.Ytpkhpfgojhojaaa.PDk

namespace Go.Proofs.Ytpkhpfgojhojaaa.PDk
open Go.RowKit Go.Proofs.YtpkhpfgojhojaaaW.PrintWords Go.Proofs.YtpkhpfgojhojaaaW.PrintLast Go.Proofs.YtpkhpfgojhojaaaW.PrintMore
attribute [local go_sem] max2_int min2_int max_two min_two max_three min_three max_four min_four
set_option linter.unusedVariables false
set_option linter.unusedSimpArgs false
-- IMPORT: Derived.Test.@N@WOwn
-- IMPORT: Derived.Test.@N@DRefops
def Rk.write (x : Rk) (i : Int) (b : List Int) : Rk × Int :=
  if 0 ≤ i ∧ i < (x.E.length : Int) ∧ b.length = 64 then ((if x.stroke.2.1 = true then { x.stroke.1 with E := x.stroke.1.E.set i.toNat b } else x.stroke.1), doneN x.stroke.2.2) else (x, 100)
theorem stroke_E (x : Rk) : x.stroke.1.E = x.E ∧ x.stroke.1.S = x.S ∧ x.stroke.1.ts = x.ts := by unfold Rk.stroke; split <;> exact ⟨rfl, rfl, rfl⟩
set_option maxHeartbeats 4000000 in
set_option maxRecDepth 100000 in
theorem rk_Write (r : Nat) (i : Int) (B : Option Addr) (c : Nat) (b : List Int) (w : World) (base : Nat) (ok : Nat → Prop) (x : Rk) (h : RkAt w base ok r x) (hbs : base ≤ w.heap.size) (hC : (Kd.int .u8).C w B b.length b) (hc : b.length ≤ c) (hm : b.length < 140737488355328) (hB : ∀ ad, B = some ad → ¬ ok ad.block) :
    Calls Try.prog 27 #[.pointer (some ⟨r, 0, none⟩), .int .i64 i, .slice B b.length c] w fun e w' => e = .returned (.int .i64 (x.write i b).2) ∧ RkAt w' base (fun k => ok k ∨ w.heap.size ≤ k) r (x.write i b).1 ∧ Kept w w' ok ∧ Below base w w' := by
  have H := Aside0.mk h
  obtain ⟨A0, c0, A1, c1, A2, c2, _, hy1, _⟩ := h.cells
  have HC := Aside0.mk hC
  have HCC := Aside0.mk hc
  have HBL := Aside0.mk hm
  have HBO := Aside0.mk hB
  have HBS := Aside0.mk hbs
  have hds := Try.underlying88
  clear h hC hc hm hB hbs
  by_cases k1 : i < 0
  · have t1 : decide (i < 0) = true := decide_eq_true k1
    have HN : Aside0 (x.write i b = (x, 100)) := ⟨by unfold Rk.write; rw [if_neg (by omega)]⟩
    clear k1
    go_enter Try.func27, Try.ntmps27
    go_wp2
    go_ret
    rw [HN.out]
    exact ⟨rfl, H.out.mono (fun k hk => .inl hk), Kept.refl _ _, Below.refl _ _⟩
  · have t1 : decide (i < 0) = false := decide_eq_false k1
    by_cases k2 : i ≥ (x.E.length : Int)
    · have t2 : decide (i ≥ (x.E.length : Int)) = true := decide_eq_true k2
      have t3 : decide ((x.E.length : Int) ≤ i) = true := decide_eq_true k2
      have HN : Aside0 (x.write i b = (x, 100)) := ⟨by unfold Rk.write; rw [if_neg (by omega)]⟩
      clear k1 k2
      go_enter Try.func27, Try.ntmps27
      go_wp2
      go_ret
      rw [HN.out]
      exact ⟨rfl, H.out.mono (fun k hk => .inl hk), Kept.refl _ _, Below.refl _ _⟩
    · obtain ⟨m, rfl⟩ : ∃ m : Nat, i = (m : Int) := ⟨i.toNat, by omega⟩
      have t2 : decide ((m : Int) ≥ (x.E.length : Int)) = false := decide_eq_false k2
      have t3 : decide ((x.E.length : Int) ≤ (m : Int)) = false := decide_eq_false k2
      have t3' : decide (x.E.length ≤ m) = false := decide_eq_false (by omega)
      by_cases k3 : b.length = 64
      · have t4 : ((b.length : Int) != 64) = false := by rw [k3]; rfl
        have t5 : (b.length != 64) = false := by rw [k3]; rfl
        have HI : Aside0 (m < x.E.length) := ⟨by omega⟩
        have HL := Aside0.mk k3
        have HN : Aside0 (x.write (m : Int) b = ((if x.stroke.2.1 = true then { x.stroke.1 with E := x.stroke.1.E.set m b } else x.stroke.1), doneN x.stroke.2.2)) := ⟨by unfold Rk.write; rw [if_pos (by omega)]; rfl⟩
        have HSE := Aside0.mk (stroke_E x)
        clear k1 k2 k3
        go_enter Try.func27, Try.ntmps27
        go_wp2_with fail
        refine (rk_stroke r _ base ok x H.out).mono ?_
        rintro e' w3 ⟨rfl, hd, hk, hb⟩
        have HD3 := Aside0.mk hd
        have HK3 := Aside0.mk hk
        have HB3 := Aside0.mk hb
        clear hd hk hb hy1
        cases hg : x.stroke.2.1 with
        | false =>
          have HG := Aside0.mk hg
          clear hg
          go_wp2_with (first | (go_at_call 56; refine (rk_done _ _).mono ?_; rintro e' w' ⟨rfl, rfl⟩))
          go_ret
          rw [HN.out, if_neg (by rw [HG.out]; decide)]
          exact ⟨rfl, HD3.out.mono (fun k hk => .inl hk), HK3.out, HB3.out⟩
        | true =>
          have HG := Aside0.mk hg
          clear hg
          obtain ⟨gs, cs, ge, ce, vt, h1, h2, h3, h4, h5, h6, h7⟩ := HD3.out
          have hge := Kd.R_typed h3 ge rfl
          have hct := (blk_cell h1 1).trans rfl
          have hct : w3.drew.cell? ⟨r, 1, none⟩ = some (.slice (some ⟨ge, 0, none⟩) x.stroke.1.E.length ce) := hct
          have HSM : Aside0 (m < x.stroke.1.E.length) := ⟨by rw [HSE.out.1]; exact HI.out⟩
          have hlt1 : m < x.stroke.1.E.length := HSM.out
          have HC3 : Aside0 ((Kd.int .u8).C w3.drew B b.length b) := ⟨C_keptB HC.out HK3.out HBO.out⟩
          have HALL : Aside0 (∀ w4, Below w3.drew.heap.size w3.drew w4 → w4.cell? ⟨r, 1, none⟩ = some (.slice (some ⟨ge, 0, none⟩) x.stroke.1.E.length ce) ∧ (∀ v, (Kd.int .u8).R 5 w4 w3.drew.heap.size (fun _ => True) v b → RkAt (w4.setCell ⟨ge, m, none⟩ v) base (fun k => ok k ∨ w3.heap.size ≤ k) r { x.stroke.1 with E := x.stroke.1.E.set m b } ∧ Kept w4 (w4.setCell ⟨ge, m, none⟩ v) (fun k => ok k ∨ w3.heap.size ≤ k) ∧ Below base w4 (w4.setCell ⟨ge, m, none⟩ v)) ∧ w4.frozen? ⟨ge, m, none⟩ = false ∧ ∃ u, w4.cell? ⟨ge, m, none⟩ = some u) := ⟨fun w4 hw => by
            have hw3 : Below w3.heap.size w3 w4 := (below_drew (Below.refl w3.heap.size w3)).trans hw
            refine ⟨pw_cell_below hw hct, fun v hv => ?_, ?_, ?_⟩
            · have g1 : gs < w3.heap.size := Kd.R_lt h2 gs rfl
              have g2 : ge < w3.heap.size := Kd.R_lt h3 ge rfl
              exact rk_setE (x := x.stroke.1) (okv := fun k => w3.heap.size ≤ k) (blk_below h1 hw3) (Kd.R_mono (Kd.R_below h2 hw3) (fun k hk => ⟨.inl hk.1, hk.2⟩)) (Kd.R_mono (Kd.R_below h3 hw3) (fun k hk => ⟨.inl hk.1, hk.2⟩)) (Kd.R_mono (Kd.R_below h4 hw3) (fun k hk => .inl hk)) h5 (.inl h6) h7 HSM.out HL.out (Kd.R_lower (Kd.R_mono (Kd.R_bound hv) (fun k hk => hk.2.1)) (Nat.le_trans HBS.out HK3.out.1)) (fun k hk => ⟨⟨.inr hk, by omega⟩, by omega⟩)
            · obtain ⟨cells, hc⟩ := Kd.R_typed (Kd.R_below h3 hw3) ge rfl
              exact blk_frozen hc m
            · obtain ⟨c, hcl, _, hcc, _⟩ := Kd.R_elem (Kd.R_below h3 hw3) [] (m : Int) (by omega) (by have := HSM.out; omega)
              match c, hcl with
              | [u], _ => exact ⟨u, by have := hcc 0 u rfl; rw [Int.toNat_natCast, show m * (Kd.slice 5 (Kd.int .u8)).sz + 0 = m by show m * 1 + 0 = m; omega] at this; exact this⟩⟩
          clear h1 h2 h3 h4 h5 h6 h7 hge
          go_upto_region 5 with (fail)
          refine start_ (n := 9) (S := fun w' => w'.cell? ⟨r, 1, none⟩ = some (.slice (some ⟨ge, 0, none⟩) x.stroke.1.E.length ce)) (ds := [8]) #[false, false, false, false, false, false, false, false, false] (by kernel_rfl) rfl rfl (hct) (fun hHeld => ?_)
          refine pure_ (i := 0) (N := some 31) (v := ?_) (a' := ?_) #[true, false, false, false, false, false, false, false, false] rfl rfl (by kernel_rfl) (fun _ _ _ h => h) (Or.inl ⟨by rfl, ?_⟩) ?_ ?_
          rotate_left
          · intro w'
            go_simp
            with_reducible rfl
          rotate_left
          · simp only [Act.put, List.setIfInBounds_toArray, List.set_cons_zero, List.set_cons_succ, i64_w, i32_w]
            rfl
          refine pure_ (i := 1) (N := some 32) (v := ?_) (a' := ?_) #[true, true, false, false, false, false, false, false, false] rfl rfl (by kernel_rfl) (fun _ _ _ h => h) (Or.inl ⟨by rfl, ?_⟩) ?_ ?_
          rotate_left
          · intro w'
            go_simp
            with_reducible rfl
          rotate_left
          · simp only [Act.put, List.setIfInBounds_toArray, List.set_cons_zero, List.set_cons_succ, i64_w, i32_w]
            rfl
          refine pure_ (i := 2) (N := some 33) (v := ?_) (a' := ?_) #[true, true, true, false, false, false, false, false, false] rfl rfl (by kernel_rfl) (fun _ _ _ h => h) (Or.inl ⟨by rfl, ?_⟩) ?_ ?_
          rotate_left
          · intro w'
            go_simp
            with_reducible rfl
          rotate_left
          · simp only [Act.put, List.setIfInBounds_toArray, List.set_cons_zero, List.set_cons_succ, i64_w, i32_w]
            rfl
          refine pure_ (i := 4) (N := some 35) (v := ?_) (a' := ?_) #[true, true, true, false, true, false, false, false, false] rfl rfl (by kernel_rfl) (fun _ _ _ h => h) (Or.inl ⟨by rfl, ?_⟩) ?_ ?_
          rotate_left
          · intro w'
            go_simp
            with_reducible rfl
          rotate_left
          · simp only [Act.put, List.setIfInBounds_toArray, List.set_cons_zero, List.set_cons_succ, i64_w, i32_w]
            rfl
          refine pure_ (i := 5) (N := some 36) (v := ?_) (a' := ?_) #[true, true, true, false, true, true, false, false, false] rfl rfl (by kernel_rfl) (fun _ _ _ h => h) (Or.inl ⟨by rfl, ?_⟩) ?_ ?_
          rotate_left
          · intro w'
            go_simp
            with_reducible rfl
          rotate_left
          · simp only [Act.put, List.setIfInBounds_toArray, List.set_cons_zero, List.set_cons_succ, i64_w, i32_w]
            rfl
          refine take_ (i := 3) (N := some 34) (v := ?_) (a' := ?_) #[true, true, true, true, true, true, false, false, false] rfl rfl (by kernel_rfl) (fun _ _ _ h => h) (Or.inl ⟨by rfl, ?_⟩) hHeld ?_ ?_
          rotate_left
          · intro w' s0
            go_simp
            with_reducible rfl
          rotate_left
          · simp only [Act.put, List.setIfInBounds_toArray, List.set_cons_zero, List.set_cons_succ, i64_w, i32_w]
            rfl
          refine one_ (i := 6) (N := some 37) #[true, true, true, true, true, true, true, false, false] rfl rfl (by kernel_rfl) (by decide) (fun K hK => ?_)
          refine goes_ Try.func20 (by kernel_rfl) rfl #[.slice B b.length c] (by rfl) rfl rfl (by simp only [List.map_toArray, List.map_cons, List.map_nil]; rfl) ?_
          with_reducible refine (dk_copyB B c b _ HC3.out HCC.out HBL.out).mono ?_
          rintro e w4 ⟨v, rfl, hR, hb⟩
          refine ⟨_, rfl, ?_⟩
          obtain ⟨Av, cv, rfl, _, _⟩ := Kd.R_reads hR
          have HR4 := Aside0.mk hR
          have HB4 := Aside0.mk hb
          obtain ⟨f1, f2, f3, f4⟩ := HALL.out _ HB4.out
          have HF1 := Aside0.mk f1
          have HF2 := Aside0.mk f2
          have HF3 := Aside0.mk f3
          have HF4 := Aside0.mk f4
          obtain ⟨u9, hu9⟩ := HF4.out
          have hfz := HF3.out
          clear hR hb f1 f2 f3 f4
          refine hK.out _ _ (HF1.out) (fun hHeld => ?_)
          clear hK K
          refine norm_ (a' := ?_) ?_ ?_
          rotate_left
          · show Act.put _ (some 37) _ = _
            simp only [Act.put, List.setIfInBounds_toArray, List.set_cons_zero, List.set_cons_succ, i64_w, i32_w]
            rfl
          refine pure_ (i := 7) (N := some 38) (v := ?_) (a' := ?_) #[true, true, true, true, true, true, true, true, false] rfl rfl (by kernel_rfl) (fun _ _ _ h => h) (Or.inl ⟨by rfl, ?_⟩) ?_ ?_
          rotate_left
          · intro w'
            go_simp
            with_reducible rfl
          rotate_left
          · simp only [Act.put, List.setIfInBounds_toArray, List.set_cons_zero, List.set_cons_succ, i64_w, i32_w]
            rfl
          refine last_ (i := 8) (N := none) #[true, true, true, true, true, true, true, true, true] rfl rfl (by kernel_rfl) (by decide) (fun K hK => ?_)
          refine skip_ (w1 := ?_) (by rfl) rfl ?_ ?_
          rotate_left
          · go_simp
            rfl
          refine hK.out _ _ ?_
          clear hK K
          refine done_ (by kernel_rfl) ?_

          go_wp2_with (first | (go_at_call 56; refine (rk_done _ _).mono ?_; rintro e' w' ⟨rfl, rfl⟩))
          go_ret
          rw [HN.out, if_pos HG.out]
          obtain ⟨q1, q2, q3⟩ := HF2.out _ HR4.out
          refine ⟨rfl, q1.mono (fun k hk => hk.imp id (fun h => Nat.le_trans HK3.out.1 h)), ?_, (HB3.out.trans ((below_drew (Below.refl base w3)).trans (HB4.out.mono (Nat.le_trans HBS.out HK3.out.1)))).trans q3⟩
          exact (HK3.out.then_ (Kept.of_below ((below_drew (Below.refl w3.heap.size w3)).trans HB4.out) ok) (fun k hk => .inl hk)).then_ q2 (fun k hk => hk.imp id (fun h => Nat.le_trans HK3.out.1 h))
      · have t4 : ((b.length : Int) != 64) = true := by simp; omega
        have t5 : (b.length != 64) = true := by simpa using k3
        have HN : Aside0 (x.write (m : Int) b = (x, 100)) := ⟨by unfold Rk.write; rw [if_neg (by omega)]⟩
        clear k1 k2 k3
        go_enter Try.func27, Try.ntmps27
        go_wp2
        go_ret
        rw [HN.out]
        exact ⟨rfl, H.out.mono (fun k hk => .inl hk), Kept.refl _ _, Below.refl _ _⟩

end Go.Proofs.Ytpkhpfgojhojaaa.PDk
