/- Parts of one proof, merged by merge.py of this repo: walks over the given program and plain facts, used by the law of the file YtpkhpfgojhojaaaCLogModel. -/
import Derived.Test.YtpkhpfgojhojaaaMLogModel3
import Derived.Test.YtpkhpfgojhojaaaMLogModel2
import Derived.Maps.Views
namespace Go.Proofs.Ytpkhpfgojhojaaa.PLg
open Go.RowKit Go.Proofs.YtpkhpfgojhojaaaW.PrintWords Go.Proofs.YtpkhpfgojhojaaaW.PrintLast Go.Proofs.YtpkhpfgojhojaaaW.PrintMore
attribute [local go_sem] max2_int min2_int max_two min_two max_three min_three max_four min_four
set_option linter.unusedVariables false
set_option linter.unusedSimpArgs false
-- IMPORT: Derived.Test.@N@WOwn
-- IMPORT: Derived.Test.@N@DRead
-- IMPORT: Derived.Test.@N@DPure
/-- What a crash leaves: from sector i on. -/
def crashL (S E : List Int) : Nat → Nat → List Int → List Int → List Int
  | 0, _, b, _ => b
  | k + 1, i, b, ps => if sec S i = sec E i ∨ ps = [] then crashL S E k (i + 1) b ps else crashL S E k (i + 1) (if (ps.headD 0).tmod 2 = 0 then b else splice b (i * 64) (sec E i)) ps.tail
def Dk.crash (x : Dk) (ps : List Int) : List Int := crashL x.S x.E (x.E.length / 64) 0 x.S ps
theorem length_crashL (S E : List Int) : ∀ (k i : Nat) (b ps : List Int), (i + k) * 64 ≤ E.length → (i + k) * 64 ≤ b.length → (crashL S E k i b ps).length = b.length
  | 0, i, b, ps, h, h' => rfl
  | k + 1, i, b, ps, h, h' => by
    rw [crashL]
    split
    · exact length_crashL S E k (i + 1) b ps (by omega) (by omega)
    · split
      · exact length_crashL S E k (i + 1) b ps.tail (by omega) (by omega)
      · rw [length_crashL S E k (i + 1) _ ps.tail (by omega) (by rw [length_splice _ _ _ (by rw [length_sec _ _ (by omega)]; omega)]; omega), length_splice _ _ _ (by rw [length_sec _ _ (by omega)]; omega)]
theorem cut_C {P : Program} (t e : TypeId) (kl : IntKind) {i : TypeInfo} (ht : P.underlying t = some (.slice e)) (hi : P.info? e = some i) (hsz : i.size = 1) (A : Option Addr) (n c m : Nat) (hm : m ≤ n) :
    ∃ A' : Option Addr, (∀ W : World, (Instr.slice t (.slice A n c) (some (.int kl (m : Int))) none none).run P W = .ok (.slice A' (n - m) (c - m)) W) ∧
      ∀ (w : World) (k : IntKind) (xs : List Int), n ≤ c → (Kd.int k).C w A n xs → (Kd.int k).C w A' (n - m) (xs.drop m) := by
  refine ⟨if c = m then A else A.map (·.add m), fun W => ?_, fun w k xs hc h => ?_⟩
  · have hel : P.elem t = e := by simp [Program.elem, ht]
    have hu : P.underlying t = some (.slice (P.elem t)) := by rw [hel]; exact ht
    rw [run_slice_l W t A n c hu kl (m : Int) (Int.natCast_nonneg _) (by omega), hel]
    simp [sizeOf, typeInfo, hi, hsz, sliced, Result.andThen]
  · obtain rfl : xs.length = n := h.1
    have := Kd.C_drop h hm hc
    rw [List.length_drop, show (Kd.int k).sz = 1 from rfl, Nat.mul_one] at this
    exact this
set_option maxHeartbeats 8000000 in
set_option maxRecDepth 100000 in
theorem dk_Crash (d : Nat) (P0 : Option Addr) (cp0 : Nat) (ps0 : List Int) (w : World) (base : Nat) (ok : Nat → Prop) (x : Dk) (h : DkAt w base ok d x) (hP : (Kd.int .i64).C w P0 ps0.length ps0) (hcp : ps0.length ≤ cp0) :
    Calls Try.prog 13 #[.pointer (some ⟨d, 0, none⟩), .slice P0 ps0.length cp0] w fun e w' => ∃ v, e = .returned v ∧ (Kd.int .u8).R 5 w' w.heap.size (fun _ => True) v (x.crash ps0) ∧ Below w.heap.size w w' := by
  have H := Aside0.mk h
  obtain ⟨gs, cs, ge, ce, bm, mm, D, h1, h2, h3, h4, h5, h6, h7, h8, h9, h10, h11⟩ := h
  have H1 := Aside0.mk h1
  have hc0 := (blk_cell h1 0).trans rfl
  have HSC := Aside0.mk (Kd.R_reads' h2)
  have HEC := Aside0.mk (Kd.R_reads' h3)
  have HFI := Aside0.mk h11
  have HP := Aside0.mk hP
  have HCP := Aside0.mk hcp
  have HCS := Aside0.mk (Kd.R_reads' h2).2.1
  have HCE := Aside0.mk (Kd.R_reads' h3).2.1
  have HMS : Aside0 (x.S.length ≤ 140737488355328) := ⟨by have := h11.1; have := h11.2.2.2; omega⟩
  have HME : Aside0 (x.E.length ≤ 140737488355328) := ⟨by have := h11.2.2.2; omega⟩
  have hds := Try.underlying82
  clear h1 h2 h3 h4 h5 h6 h7 h8 h9 h10 h11 hP hcp
  go_enter Try.func13, Try.ntmps13
  go_wp2_with (first | (go_at_call 48; refine (slices_Clone_byte_byte.calls (some ⟨gs, 0, none⟩) cs x.S x.S _ HSC.out.2.2 HSC.out.2.1 (clone_some (by have := HFI.out.1; have := HFI.out.2.2.2; omega))).mono ?_; rintro e w1 ⟨v0, rfl, hR, hb⟩; obtain ⟨gb, cb, rfl, _⟩ := Kd.R_form hR (by have := HFI.out.1; have := HFI.out.2.2.1; omega); have HR1 := Aside0.mk hR; have HB1 := Aside0.mk hb; clear hR hb hc0) | (go_at_call 30; refine (dk_count d _ base _ x (H.out.below HB1.out)).mono ?_; rintro e w2 ⟨rfl, rfl⟩))
  obtain ⟨cnt, hcnt⟩ : ∃ cnt : Nat, cnt = x.E.length / 64 := ⟨_, rfl⟩
  have hcn : (x.E.length : Int) / 64 = (cnt : Int) := by omega
  rw [hcn]
  have HCN : Aside0 (cnt * 64 = x.E.length ∧ cnt * 64 = x.S.length ∧ cnt ≤ 16384) := ⟨by have := HFI.out.1; have := HFI.out.2.1; have := HFI.out.2.2.2; omega⟩
  have HCQ := Aside0.mk hcnt
  have HCB : Aside0 (x.S.length ≤ cb) := ⟨(Kd.R_reads' HR1.out).2.1⟩
  have hcm : cnt ≤ 16384 := HCN.out.2.2
  clear hcn hcnt
  go_loopw [1, 14] (fun v1 v14 w' => ∃ (i : Nat) (P : Option Addr) (cp : Nat) (ps bc : List Int), i ≤ cnt ∧ v1 = .slice P ps.length cp ∧ v14 = .int .i64 i ∧ Aside0 (ps.length ≤ cp) ∧ Aside0 ((Kd.int .i64).C w P ps.length ps) ∧ Aside0 (bc.length = x.S.length) ∧ Aside0 (crashL x.S x.E (cnt - i) i bc ps = x.crash ps0) ∧ Aside0 ((Kd.int .u8).R 5 w' w.heap.size (fun _ => True) (.slice (some ⟨gb, 0, none⟩) x.S.length cb) bc) ∧ Aside0 (Below w.heap.size w w')) (fun _ v14 _ => cnt - (intOf v14).toNat)
  case atStart => exact ⟨0, P0, cp0, ps0, x.S, Nat.zero_le _, rfl, rfl, HCP, HP, ⟨rfl⟩, ⟨by unfold Dk.crash; rw [← HCQ.out]; rfl⟩, HR1, HB1⟩
  case round =>
    clear HR1 HB1 HP HCP HCQ
    obtain ⟨i, P, cp, ps, bc, hi, rfl, rfl, HCP, HP, HBL, HCR, HRB, HB⟩ := hrel
    have hpm := HP.out.2.1
    by_cases hlt : i < cnt
    · have HIS : Aside0 (i * 64 + 64 ≤ x.S.length) := ⟨by have := HCN.out; omega⟩
      have HIE : Aside0 (i * 64 + 64 ≤ x.E.length) := ⟨by have := HCN.out; omega⟩
      have hd0 : wr.drew.cell? ⟨d, 0, none⟩ = some (.slice (some ⟨gs, 0, none⟩) x.S.length cs) := (blk_cell (blk_below H1.out (below_drew HB.out)) 0).trans rfl
      have hd1 : wr.drew.cell? ⟨d, 1, none⟩ = some (.slice (some ⟨ge, 0, none⟩) x.E.length ce) := (blk_cell (blk_below H1.out (below_drew HB.out)) 1).trans rfl
      have HEQ : Aside0 (∀ W, Below w.heap.size w W → Calls Try.prog 51 #[.slice (some ⟨gs, i * 64, none⟩) 64 (cs - i * 64), .slice (some ⟨ge, i * 64, none⟩) 64 (ce - i * 64)] W fun e w' => e = .returned (.bool (decide (sec x.S i = sec x.E i))) ∧ Drawn0 W w') := ⟨fun W hW => by
        have l1 := length_sec x.S i HIS.out
        have l2 := length_sec x.E i HIE.out
        have := dk_equal (some ⟨gs, i * 64, none⟩) (cs - i * 64) (sec x.S i) (some ⟨ge, i * 64, none⟩) (ce - i * 64) (sec x.E i) W (by rw [l1]; exact Kd.C_below (C_sub HSC.out.2.2 HIS.out) hW) (by rw [l1]; have := HIS.out; have := HCS.out; omega) (by rw [l2]; exact Kd.C_below (C_sub HEC.out.2.2 HIE.out) hW) (by rw [l2]; have := HIE.out; have := HCE.out; omega) (by rw [l1]; decide)
        rw [l1, l2] at this
        exact this⟩
      obtain ⟨m, hm⟩ : ∃ m, cnt - i = m + 1 := ⟨cnt - i - 1, by omega⟩
      have hcr := HCR.out
      rw [hm, crashL] at hcr
      by_cases q1 : sec x.S i = sec x.E i
      · rw [if_pos (.inl q1)] at hcr
        have HC2 : Aside0 (crashL x.S x.E (cnt - (i + 1)) (i + 1) bc ps = x.crash ps0) := ⟨by rw [show cnt - (i + 1) = m by omega]; exact hcr⟩
        have u1 : decide (sec x.S i = sec x.E i) = true := decide_eq_true q1
        rw [u1] at HEQ
        clear hcr hm q1 u1 HCR
        go_upto_region 5 with (fail)
        refine start_ (n := 18) (S := fun w' => w'.cell? ⟨d, 0, none⟩ = some (.slice (some ⟨gs, 0, none⟩) x.S.length cs) ∧ w'.cell? ⟨d, 1, none⟩ = some (.slice (some ⟨ge, 0, none⟩) x.E.length ce)) (ds := []) #[false, false, false, false, false, false, false, false, false, false, false, false, false, false, false, false, false, false] (by kernel_rfl) rfl rfl ⟨hd0, hd1⟩ (fun hHeld => ?_)
        refine pure_ (i := 0) (N := some 17) (v := ?_) (a' := ?_) #[true, false, false, false, false, false, false, false, false, false, false, false, false, false, false, false, false, false] rfl rfl (by kernel_rfl) (fun _ _ _ h => h) (Or.inl ⟨by rfl, ?_⟩) ?_ ?_
        rotate_left
        · intro w'
          go_simp
          with_reducible rfl
        rotate_left
        · simp only [Act.put, List.setIfInBounds_toArray, List.set_cons_zero, List.set_cons_succ, i64_w, i32_w]
          rfl
        refine pure_ (i := 1) (N := some 18) (v := ?_) (a' := ?_) #[true, true, false, false, false, false, false, false, false, false, false, false, false, false, false, false, false, false] rfl rfl (by kernel_rfl) (fun _ _ _ h => h) (Or.inl ⟨by rfl, ?_⟩) ?_ ?_
        rotate_left
        · intro w'
          go_simp
          with_reducible rfl
        rotate_left
        · simp only [Act.put, List.setIfInBounds_toArray, List.set_cons_zero, List.set_cons_succ, i64_w, i32_w]
          rfl
        refine pure_ (i := 2) (N := some 19) (v := ?_) (a' := ?_) #[true, true, true, false, false, false, false, false, false, false, false, false, false, false, false, false, false, false] rfl rfl (by kernel_rfl) (fun _ _ _ h => h) (Or.inl ⟨by rfl, ?_⟩) ?_ ?_
        rotate_left
        · intro w'
          go_simp
          with_reducible rfl
        rotate_left
        · simp only [Act.put, List.setIfInBounds_toArray, List.set_cons_zero, List.set_cons_succ, i64_w, i32_w]
          rfl
        refine pure_ (i := 4) (N := some 21) (v := ?_) (a' := ?_) #[true, true, true, false, true, false, false, false, false, false, false, false, false, false, false, false, false, false] rfl rfl (by kernel_rfl) (fun _ _ _ h => h) (Or.inl ⟨by rfl, ?_⟩) ?_ ?_
        rotate_left
        · intro w'
          go_simp
          with_reducible rfl
        rotate_left
        · simp only [Act.put, List.setIfInBounds_toArray, List.set_cons_zero, List.set_cons_succ, i64_w, i32_w]
          rfl
        refine pure_ (i := 6) (N := some 23) (v := ?_) (a' := ?_) #[true, true, true, false, true, false, true, false, false, false, false, false, false, false, false, false, false, false] rfl rfl (by kernel_rfl) (fun _ _ _ h => h) (Or.inl ⟨by rfl, ?_⟩) ?_ ?_
        rotate_left
        · intro w'
          go_simp
          with_reducible rfl
        rotate_left
        · simp only [Act.put, List.setIfInBounds_toArray, List.set_cons_zero, List.set_cons_succ, i64_w, i32_w]
          rfl
        refine pure_ (i := 7) (N := some 24) (v := ?_) (a' := ?_) #[true, true, true, false, true, false, true, true, false, false, false, false, false, false, false, false, false, false] rfl rfl (by kernel_rfl) (fun _ _ _ h => h) (Or.inl ⟨by rfl, ?_⟩) ?_ ?_
        rotate_left
        · intro w'
          go_simp
          with_reducible rfl
        rotate_left
        · simp only [Act.put, List.setIfInBounds_toArray, List.set_cons_zero, List.set_cons_succ, i64_w, i32_w]
          rfl
        refine pure_ (i := 8) (N := some 25) (v := ?_) (a' := ?_) #[true, true, true, false, true, false, true, true, true, false, false, false, false, false, false, false, false, false] rfl rfl (by kernel_rfl) (fun _ _ _ h => h) (Or.inl ⟨by rfl, ?_⟩) ?_ ?_
        rotate_left
        · intro w'
          go_simp
          with_reducible rfl
        rotate_left
        · simp only [Act.put, List.setIfInBounds_toArray, List.set_cons_zero, List.set_cons_succ, i64_w, i32_w]
          rfl
        refine pure_ (i := 10) (N := some 27) (v := ?_) (a' := ?_) #[true, true, true, false, true, false, true, true, true, false, true, false, false, false, false, false, false, false] rfl rfl (by kernel_rfl) (fun _ _ _ h => h) (Or.inl ⟨by rfl, ?_⟩) ?_ ?_
        rotate_left
        · intro w'
          go_simp
          with_reducible rfl
        rotate_left
        · simp only [Act.put, List.setIfInBounds_toArray, List.set_cons_zero, List.set_cons_succ, i64_w, i32_w]
          rfl
        refine take_ (i := 3) (N := some 20) (v := ?_) (a' := ?_) #[true, true, true, true, true, false, true, true, true, false, true, false, false, false, false, false, false, false] rfl rfl (by kernel_rfl) (fun _ _ _ h => h) (Or.inl ⟨by rfl, ?_⟩) hHeld ?_ ?_
        rotate_left
        · rintro w' ⟨s0, s1⟩
          go_simp
          with_reducible rfl
        rotate_left
        · simp only [Act.put, List.setIfInBounds_toArray, List.set_cons_zero, List.set_cons_succ, i64_w, i32_w]
          rfl
        refine take_ (i := 9) (N := some 26) (v := ?_) (a' := ?_) #[true, true, true, true, true, false, true, true, true, true, true, false, false, false, false, false, false, false] rfl rfl (by kernel_rfl) (fun _ _ _ h => h) (Or.inl ⟨by rfl, ?_⟩) hHeld ?_ ?_
        rotate_left
        · rintro w' ⟨s0, s1⟩
          go_simp
          with_reducible rfl
        rotate_left
        · simp only [Act.put, List.setIfInBounds_toArray, List.set_cons_zero, List.set_cons_succ, i64_w, i32_w]
          rfl
        refine one_ (i := 5) (N := some 22) #[true, true, true, true, true, true, true, true, true, true, true, false, false, false, false, false, false, false] rfl rfl (by kernel_rfl) (by decide) (fun K hK => ?_)
        refine goes_ Try.func52 (by kernel_rfl) rfl #[.slice (some ⟨gs, 0, none⟩) x.S.length cs, .int .i64 (i : Int)] (by rfl) rfl rfl (by simp only [List.map_toArray, List.map_cons, List.map_nil]; rfl) ?_
        with_reducible refine (dk_at gs x.S.length cs i _ HIS.out HCS.out HMS.out).mono ?_
        rintro e w3 ⟨rfl, rfl⟩
        refine ⟨_, rfl, ?_⟩
        refine hK.out _ _ ⟨hd0, hd1⟩ (fun hHeld => ?_)
        clear hK K
        refine norm_ (a' := ?_) ?_ ?_
        rotate_left
        · show Act.put _ (some 22) _ = _
          simp only [Act.put, List.setIfInBounds_toArray, List.set_cons_zero, List.set_cons_succ, i64_w, i32_w]
          rfl
        refine one_ (i := 11) (N := some 28) #[true, true, true, true, true, true, true, true, true, true, true, true, false, false, false, false, false, false] rfl rfl (by kernel_rfl) (by decide) (fun K hK => ?_)
        refine goes_ Try.func52 (by kernel_rfl) rfl #[.slice (some ⟨ge, 0, none⟩) x.E.length ce, .int .i64 (i : Int)] (by rfl) rfl rfl (by simp only [List.map_toArray, List.map_cons, List.map_nil]; rfl) ?_
        with_reducible refine (dk_at ge x.E.length ce i _ HIE.out HCE.out HME.out).mono ?_
        rintro e w3 ⟨rfl, rfl⟩
        refine ⟨_, rfl, ?_⟩
        refine hK.out _ _ ⟨hd0, hd1⟩ (fun hHeld => ?_)
        clear hK K
        refine norm_ (a' := ?_) ?_ ?_
        rotate_left
        · show Act.put _ (some 28) _ = _
          simp only [Act.put, List.setIfInBounds_toArray, List.set_cons_zero, List.set_cons_succ, i64_w, i32_w]
          rfl
        refine one_ (i := 12) (N := some 29) #[true, true, true, true, true, true, true, true, true, true, true, true, true, false, false, false, false, false] rfl rfl (by kernel_rfl) (by decide) (fun K hK => ?_)
        refine goes_ Try.func51 (by kernel_rfl) rfl #[.slice (some ⟨gs, i * 64, none⟩) 64 (cs - i * 64), .slice (some ⟨ge, i * 64, none⟩) 64 (ce - i * 64)] (by rfl) rfl rfl (by simp only [List.map_toArray, List.map_cons, List.map_nil]; rfl) ?_
        with_reducible refine (HEQ.out _ (below_drew HB.out)).mono ?_
        rintro e w5 ⟨rfl, ⟨nd, rfl⟩⟩
        refine ⟨_, rfl, ?_⟩
        refine hK.out _ _ ⟨hd0, hd1⟩ (fun hHeld => ?_)
        clear hK K
        refine norm_ (a' := ?_) ?_ ?_
        rotate_left
        · show Act.put _ (some 29) _ = _
          simp only [Act.put, List.setIfInBounds_toArray, List.set_cons_zero, List.set_cons_succ, i64_w, i32_w]
          rfl
        refine pure_ (i := 13) (N := some 30) (v := ?_) (a' := ?_) #[true, true, true, true, true, true, true, true, true, true, true, true, true, true, false, false, false, false] rfl rfl (by kernel_rfl) (fun _ _ _ h => h) (Or.inl ⟨by rfl, ?_⟩) ?_ ?_
        rotate_left
        · intro w'
          go_simp
          with_reducible rfl
        rotate_left
        · simp only [Act.put, List.setIfInBounds_toArray, List.set_cons_zero, List.set_cons_succ, i64_w, i32_w]
          rfl
        refine pure_ (i := 14) (N := some 31) (v := undef) (a' := ?_) #[true, true, true, true, true, true, true, true, true, true, true, true, true, true, true, false, false, false] rfl rfl (by kernel_rfl) (fun _ _ _ h => h) (Or.inr ⟨by rfl, rfl⟩) ?_ ?_
        rotate_left
        · simp only [Act.put, List.setIfInBounds_toArray, List.set_cons_zero, List.set_cons_succ, i64_w, i32_w]
          rfl
        refine pure_ (i := 15) (N := some 32) (v := undef) (a' := ?_) #[true, true, true, true, true, true, true, true, true, true, true, true, true, true, true, true, false, false] rfl rfl (by kernel_rfl) (fun _ _ _ h => h) (Or.inr ⟨by rfl, rfl⟩) ?_ ?_
        rotate_left
        · simp only [Act.put, List.setIfInBounds_toArray, List.set_cons_zero, List.set_cons_succ, i64_w, i32_w]
          rfl
        refine pure_ (i := 16) (N := some 33) (v := undef) (a' := ?_) #[true, true, true, true, true, true, true, true, true, true, true, true, true, true, true, true, true, false] rfl rfl (by kernel_rfl) (fun _ _ _ h => h) (Or.inr ⟨by rfl, rfl⟩) ?_ ?_
        rotate_left
        · simp only [Act.put, List.setIfInBounds_toArray, List.set_cons_zero, List.set_cons_succ, i64_w, i32_w]
          rfl
        refine pure_ (i := 17) (N := some 34) (v := ?_) (a' := ?_) #[true, true, true, true, true, true, true, true, true, true, true, true, true, true, true, true, true, true] rfl rfl (by kernel_rfl) (fun _ _ _ h => h) (Or.inl ⟨by rfl, ?_⟩) ?_ ?_
        rotate_left
        · intro w'
          go_simp
          with_reducible rfl
        rotate_left
        · simp only [Act.put, List.setIfInBounds_toArray, List.set_cons_zero, List.set_cons_succ, i64_w, i32_w]
          rfl
        refine done_ (by kernel_rfl) ?_

        go_wp2
        go_roundw
        case rel => exact ⟨i + 1, P, cp, ps, bc, by omega, rfl, by go_num, HCP, HP, HBL, HC2, ⟨Kd.R_drewN HRB.out _⟩, ⟨pw_below_drewN HB.out _⟩⟩
        case measure => simp [intOf]; omega
      · have u1 : decide (sec x.S i = sec x.E i) = false := decide_eq_false q1
        rw [u1] at HEQ
        cases ps with
        | nil =>
          rw [if_pos (.inr rfl)] at hcr
          have HC2 : Aside0 (crashL x.S x.E (cnt - (i + 1)) (i + 1) bc [] = x.crash ps0) := ⟨by rw [show cnt - (i + 1) = m by omega]; exact hcr⟩
          clear hcr hm q1 u1 HCR
          go_upto_region 5 with (fail)
          refine start_ (n := 18) (S := fun w' => w'.cell? ⟨d, 0, none⟩ = some (.slice (some ⟨gs, 0, none⟩) x.S.length cs) ∧ w'.cell? ⟨d, 1, none⟩ = some (.slice (some ⟨ge, 0, none⟩) x.E.length ce)) (ds := []) #[false, false, false, false, false, false, false, false, false, false, false, false, false, false, false, false, false, false] (by kernel_rfl) rfl rfl ⟨hd0, hd1⟩ (fun hHeld => ?_)
          refine pure_ (i := 0) (N := some 17) (v := ?_) (a' := ?_) #[true, false, false, false, false, false, false, false, false, false, false, false, false, false, false, false, false, false] rfl rfl (by kernel_rfl) (fun _ _ _ h => h) (Or.inl ⟨by rfl, ?_⟩) ?_ ?_
          rotate_left
          · intro w'
            go_simp
            with_reducible rfl
          rotate_left
          · simp only [Act.put, List.setIfInBounds_toArray, List.set_cons_zero, List.set_cons_succ, i64_w, i32_w]
            rfl
          refine pure_ (i := 1) (N := some 18) (v := ?_) (a' := ?_) #[true, true, false, false, false, false, false, false, false, false, false, false, false, false, false, false, false, false] rfl rfl (by kernel_rfl) (fun _ _ _ h => h) (Or.inl ⟨by rfl, ?_⟩) ?_ ?_
          rotate_left
          · intro w'
            go_simp
            with_reducible rfl
          rotate_left
          · simp only [Act.put, List.setIfInBounds_toArray, List.set_cons_zero, List.set_cons_succ, i64_w, i32_w]
            rfl
          refine pure_ (i := 2) (N := some 19) (v := ?_) (a' := ?_) #[true, true, true, false, false, false, false, false, false, false, false, false, false, false, false, false, false, false] rfl rfl (by kernel_rfl) (fun _ _ _ h => h) (Or.inl ⟨by rfl, ?_⟩) ?_ ?_
          rotate_left
          · intro w'
            go_simp
            with_reducible rfl
          rotate_left
          · simp only [Act.put, List.setIfInBounds_toArray, List.set_cons_zero, List.set_cons_succ, i64_w, i32_w]
            rfl
          refine pure_ (i := 4) (N := some 21) (v := ?_) (a' := ?_) #[true, true, true, false, true, false, false, false, false, false, false, false, false, false, false, false, false, false] rfl rfl (by kernel_rfl) (fun _ _ _ h => h) (Or.inl ⟨by rfl, ?_⟩) ?_ ?_
          rotate_left
          · intro w'
            go_simp
            with_reducible rfl
          rotate_left
          · simp only [Act.put, List.setIfInBounds_toArray, List.set_cons_zero, List.set_cons_succ, i64_w, i32_w]
            rfl
          refine pure_ (i := 6) (N := some 23) (v := ?_) (a' := ?_) #[true, true, true, false, true, false, true, false, false, false, false, false, false, false, false, false, false, false] rfl rfl (by kernel_rfl) (fun _ _ _ h => h) (Or.inl ⟨by rfl, ?_⟩) ?_ ?_
          rotate_left
          · intro w'
            go_simp
            with_reducible rfl
          rotate_left
          · simp only [Act.put, List.setIfInBounds_toArray, List.set_cons_zero, List.set_cons_succ, i64_w, i32_w]
            rfl
          refine pure_ (i := 7) (N := some 24) (v := ?_) (a' := ?_) #[true, true, true, false, true, false, true, true, false, false, false, false, false, false, false, false, false, false] rfl rfl (by kernel_rfl) (fun _ _ _ h => h) (Or.inl ⟨by rfl, ?_⟩) ?_ ?_
          rotate_left
          · intro w'
            go_simp
            with_reducible rfl
          rotate_left
          · simp only [Act.put, List.setIfInBounds_toArray, List.set_cons_zero, List.set_cons_succ, i64_w, i32_w]
            rfl
          refine pure_ (i := 8) (N := some 25) (v := ?_) (a' := ?_) #[true, true, true, false, true, false, true, true, true, false, false, false, false, false, false, false, false, false] rfl rfl (by kernel_rfl) (fun _ _ _ h => h) (Or.inl ⟨by rfl, ?_⟩) ?_ ?_
          rotate_left
          · intro w'
            go_simp
            with_reducible rfl
          rotate_left
          · simp only [Act.put, List.setIfInBounds_toArray, List.set_cons_zero, List.set_cons_succ, i64_w, i32_w]
            rfl
          refine pure_ (i := 10) (N := some 27) (v := ?_) (a' := ?_) #[true, true, true, false, true, false, true, true, true, false, true, false, false, false, false, false, false, false] rfl rfl (by kernel_rfl) (fun _ _ _ h => h) (Or.inl ⟨by rfl, ?_⟩) ?_ ?_
          rotate_left
          · intro w'
            go_simp
            with_reducible rfl
          rotate_left
          · simp only [Act.put, List.setIfInBounds_toArray, List.set_cons_zero, List.set_cons_succ, i64_w, i32_w]
            rfl
          refine take_ (i := 3) (N := some 20) (v := ?_) (a' := ?_) #[true, true, true, true, true, false, true, true, true, false, true, false, false, false, false, false, false, false] rfl rfl (by kernel_rfl) (fun _ _ _ h => h) (Or.inl ⟨by rfl, ?_⟩) hHeld ?_ ?_
          rotate_left
          · rintro w' ⟨s0, s1⟩
            go_simp
            with_reducible rfl
          rotate_left
          · simp only [Act.put, List.setIfInBounds_toArray, List.set_cons_zero, List.set_cons_succ, i64_w, i32_w]
            rfl
          refine take_ (i := 9) (N := some 26) (v := ?_) (a' := ?_) #[true, true, true, true, true, false, true, true, true, true, true, false, false, false, false, false, false, false] rfl rfl (by kernel_rfl) (fun _ _ _ h => h) (Or.inl ⟨by rfl, ?_⟩) hHeld ?_ ?_
          rotate_left
          · rintro w' ⟨s0, s1⟩
            go_simp
            with_reducible rfl
          rotate_left
          · simp only [Act.put, List.setIfInBounds_toArray, List.set_cons_zero, List.set_cons_succ, i64_w, i32_w]
            rfl
          refine one_ (i := 5) (N := some 22) #[true, true, true, true, true, true, true, true, true, true, true, false, false, false, false, false, false, false] rfl rfl (by kernel_rfl) (by decide) (fun K hK => ?_)
          refine goes_ Try.func52 (by kernel_rfl) rfl #[.slice (some ⟨gs, 0, none⟩) x.S.length cs, .int .i64 (i : Int)] (by rfl) rfl rfl (by simp only [List.map_toArray, List.map_cons, List.map_nil]; rfl) ?_
          with_reducible refine (dk_at gs x.S.length cs i _ HIS.out HCS.out HMS.out).mono ?_
          rintro e w3 ⟨rfl, rfl⟩
          refine ⟨_, rfl, ?_⟩
          refine hK.out _ _ ⟨hd0, hd1⟩ (fun hHeld => ?_)
          clear hK K
          refine norm_ (a' := ?_) ?_ ?_
          rotate_left
          · show Act.put _ (some 22) _ = _
            simp only [Act.put, List.setIfInBounds_toArray, List.set_cons_zero, List.set_cons_succ, i64_w, i32_w]
            rfl
          refine one_ (i := 11) (N := some 28) #[true, true, true, true, true, true, true, true, true, true, true, true, false, false, false, false, false, false] rfl rfl (by kernel_rfl) (by decide) (fun K hK => ?_)
          refine goes_ Try.func52 (by kernel_rfl) rfl #[.slice (some ⟨ge, 0, none⟩) x.E.length ce, .int .i64 (i : Int)] (by rfl) rfl rfl (by simp only [List.map_toArray, List.map_cons, List.map_nil]; rfl) ?_
          with_reducible refine (dk_at ge x.E.length ce i _ HIE.out HCE.out HME.out).mono ?_
          rintro e w3 ⟨rfl, rfl⟩
          refine ⟨_, rfl, ?_⟩
          refine hK.out _ _ ⟨hd0, hd1⟩ (fun hHeld => ?_)
          clear hK K
          refine norm_ (a' := ?_) ?_ ?_
          rotate_left
          · show Act.put _ (some 28) _ = _
            simp only [Act.put, List.setIfInBounds_toArray, List.set_cons_zero, List.set_cons_succ, i64_w, i32_w]
            rfl
          refine one_ (i := 12) (N := some 29) #[true, true, true, true, true, true, true, true, true, true, true, true, true, false, false, false, false, false] rfl rfl (by kernel_rfl) (by decide) (fun K hK => ?_)
          refine goes_ Try.func51 (by kernel_rfl) rfl #[.slice (some ⟨gs, i * 64, none⟩) 64 (cs - i * 64), .slice (some ⟨ge, i * 64, none⟩) 64 (ce - i * 64)] (by rfl) rfl rfl (by simp only [List.map_toArray, List.map_cons, List.map_nil]; rfl) ?_
          with_reducible refine (HEQ.out _ (below_drew HB.out)).mono ?_
          rintro e w5 ⟨rfl, ⟨nd, rfl⟩⟩
          refine ⟨_, rfl, ?_⟩
          refine hK.out _ _ ⟨hd0, hd1⟩ (fun hHeld => ?_)
          clear hK K
          refine norm_ (a' := ?_) ?_ ?_
          rotate_left
          · show Act.put _ (some 29) _ = _
            simp only [Act.put, List.setIfInBounds_toArray, List.set_cons_zero, List.set_cons_succ, i64_w, i32_w]
            rfl
          refine pure_ (i := 13) (N := some 30) (v := ?_) (a' := ?_) #[true, true, true, true, true, true, true, true, true, true, true, true, true, true, false, false, false, false] rfl rfl (by kernel_rfl) (fun _ _ _ h => h) (Or.inl ⟨by rfl, ?_⟩) ?_ ?_
          rotate_left
          · intro w'
            go_simp
            with_reducible rfl
          rotate_left
          · simp only [Act.put, List.setIfInBounds_toArray, List.set_cons_zero, List.set_cons_succ, i64_w, i32_w]
            rfl
          refine pure_ (i := 14) (N := some 31) (v := ?_) (a' := ?_) #[true, true, true, true, true, true, true, true, true, true, true, true, true, true, true, false, false, false] rfl rfl (by kernel_rfl) (fun _ _ _ h => h) (Or.inl ⟨by rfl, ?_⟩) ?_ ?_
          rotate_left
          · intro w'
            go_simp
            with_reducible rfl
          rotate_left
          · simp only [Act.put, List.setIfInBounds_toArray, List.set_cons_zero, List.set_cons_succ, i64_w, i32_w]
            rfl
          refine pure_ (i := 15) (N := some 32) (v := ?_) (a' := ?_) #[true, true, true, true, true, true, true, true, true, true, true, true, true, true, true, true, false, false] rfl rfl (by kernel_rfl) (fun _ _ _ h => h) (Or.inl ⟨by rfl, ?_⟩) ?_ ?_
          rotate_left
          · intro w'
            go_simp
            with_reducible rfl
          rotate_left
          · simp only [Act.put, List.setIfInBounds_toArray, List.set_cons_zero, List.set_cons_succ, i64_w, i32_w]
            rfl
          refine pure_ (i := 16) (N := some 33) (v := ?_) (a' := ?_) #[true, true, true, true, true, true, true, true, true, true, true, true, true, true, true, true, true, false] rfl rfl (by kernel_rfl) (fun _ _ _ h => h) (Or.inl ⟨by rfl, ?_⟩) ?_ ?_
          rotate_left
          · intro w'
            go_simp
            with_reducible rfl
          rotate_left
          · simp only [Act.put, List.setIfInBounds_toArray, List.set_cons_zero, List.set_cons_succ, i64_w, i32_w]
            rfl
          refine pure_ (i := 17) (N := some 34) (v := ?_) (a' := ?_) #[true, true, true, true, true, true, true, true, true, true, true, true, true, true, true, true, true, true] rfl rfl (by kernel_rfl) (fun _ _ _ h => h) (Or.inl ⟨by rfl, ?_⟩) ?_ ?_
          rotate_left
          · intro w'
            go_simp
            with_reducible rfl
          rotate_left
          · simp only [Act.put, List.setIfInBounds_toArray, List.set_cons_zero, List.set_cons_succ, i64_w, i32_w]
            rfl
          refine done_ (by kernel_rfl) ?_

          go_wp2
          go_roundw
          case rel => exact ⟨i + 1, P, cp, [], bc, by omega, rfl, by go_num, HCP, HP, HBL, HC2, ⟨Kd.R_drewN HRB.out _⟩, ⟨pw_below_drewN HB.out _⟩⟩
          case measure => simp [intOf]; omega
        | cons p ps =>
          rw [if_neg (by rintro (h | h); exact q1 h; cases h)] at hcr
          obtain ⟨ad, rfl, hcp0⟩ := Kd.at_int HP.out 0 (by decide) (by rw [List.length_cons]; omega)
          have hcp : w.cell? ad = some (.int .i64 p) := by
            have : ad.add (Int.toNat 0) = ad := by unfold Addr.add; simp
            rw [this] at hcp0
            exact hcp0
          have hpx : wr.cell? ad = some (.int .i64 p) := (HB.out.cell (World.block_lt_of_cell? _ _ hcp)).trans hcp
          have hinf : (Try.prog.info? 3).map (fun i => i.size) = some 1 := by kernel_rfl
          obtain ⟨i0, hi0, hz0⟩ := Option.map_eq_some_iff.1 hinf
          obtain ⟨P', hcut0, hP'⟩ := cut_C (P := Try.prog) 33 3 .i64 Try.underlying33 hi0 hz0 (some ad) (ps.length + 1) cp 1 (by omega)
          have hcut : ∀ W : World, (Instr.slice 33 (.slice (some ad) (ps.length + 1) cp) (some (.int .i64 1)) none none).run Try.prog W = .ok (.slice P' ps.length (cp - 1)) W := fun W => by have := hcut0 W; rwa [Nat.add_sub_cancel] at this
          have HP2 : Aside0 ((Kd.int .i64).C w P' ps.length ps) := ⟨by have := hP' w .i64 (p :: ps) HCP.out HP.out; rwa [Nat.add_sub_cancel] at this⟩
          have HCP2 : Aside0 (ps.length ≤ cp - 1) := ⟨by have := HCP.out; rw [List.length_cons] at this; omega⟩
          have hpm2 : ps.length + 1 ≤ 9223372036854775807 := hpm
          clear hinf hi0 hz0 hcut0 hP' hcp hcp0 hpm
          by_cases e2 : p.tmod 2 = 0
          · rw [if_pos (by exact e2)] at hcr
            have HC2 : Aside0 (crashL x.S x.E (cnt - (i + 1)) (i + 1) bc ps = x.crash ps0) := ⟨by rw [show cnt - (i + 1) = m by omega]; exact hcr⟩
            have t2 : (p.tmod 2 != 0) = false := by rw [e2]; rfl
            have t2' : (p.tmod 2 == 0) = true := by rw [e2]; rfl
            clear hcr hm q1 u1 HCR e2
            go_upto_region 5 with (fail)
            refine start_ (n := 18) (S := fun w' => w'.cell? ⟨d, 0, none⟩ = some (.slice (some ⟨gs, 0, none⟩) x.S.length cs) ∧ w'.cell? ⟨d, 1, none⟩ = some (.slice (some ⟨ge, 0, none⟩) x.E.length ce)) (ds := []) #[false, false, false, false, false, false, false, false, false, false, false, false, false, false, false, false, false, false] (by kernel_rfl) rfl rfl ⟨hd0, hd1⟩ (fun hHeld => ?_)
            refine pure_ (i := 0) (N := some 17) (v := ?_) (a' := ?_) #[true, false, false, false, false, false, false, false, false, false, false, false, false, false, false, false, false, false] rfl rfl (by kernel_rfl) (fun _ _ _ h => h) (Or.inl ⟨by rfl, ?_⟩) ?_ ?_
            rotate_left
            · intro w'
              go_simp
              with_reducible rfl
            rotate_left
            · simp only [Act.put, List.setIfInBounds_toArray, List.set_cons_zero, List.set_cons_succ, i64_w, i32_w]
              rfl
            refine pure_ (i := 1) (N := some 18) (v := ?_) (a' := ?_) #[true, true, false, false, false, false, false, false, false, false, false, false, false, false, false, false, false, false] rfl rfl (by kernel_rfl) (fun _ _ _ h => h) (Or.inl ⟨by rfl, ?_⟩) ?_ ?_
            rotate_left
            · intro w'
              go_simp
              with_reducible rfl
            rotate_left
            · simp only [Act.put, List.setIfInBounds_toArray, List.set_cons_zero, List.set_cons_succ, i64_w, i32_w]
              rfl
            refine pure_ (i := 2) (N := some 19) (v := ?_) (a' := ?_) #[true, true, true, false, false, false, false, false, false, false, false, false, false, false, false, false, false, false] rfl rfl (by kernel_rfl) (fun _ _ _ h => h) (Or.inl ⟨by rfl, ?_⟩) ?_ ?_
            rotate_left
            · intro w'
              go_simp
              with_reducible rfl
            rotate_left
            · simp only [Act.put, List.setIfInBounds_toArray, List.set_cons_zero, List.set_cons_succ, i64_w, i32_w]
              rfl
            refine pure_ (i := 4) (N := some 21) (v := ?_) (a' := ?_) #[true, true, true, false, true, false, false, false, false, false, false, false, false, false, false, false, false, false] rfl rfl (by kernel_rfl) (fun _ _ _ h => h) (Or.inl ⟨by rfl, ?_⟩) ?_ ?_
            rotate_left
            · intro w'
              go_simp
              with_reducible rfl
            rotate_left
            · simp only [Act.put, List.setIfInBounds_toArray, List.set_cons_zero, List.set_cons_succ, i64_w, i32_w]
              rfl
            refine pure_ (i := 6) (N := some 23) (v := ?_) (a' := ?_) #[true, true, true, false, true, false, true, false, false, false, false, false, false, false, false, false, false, false] rfl rfl (by kernel_rfl) (fun _ _ _ h => h) (Or.inl ⟨by rfl, ?_⟩) ?_ ?_
            rotate_left
            · intro w'
              go_simp
              with_reducible rfl
            rotate_left
            · simp only [Act.put, List.setIfInBounds_toArray, List.set_cons_zero, List.set_cons_succ, i64_w, i32_w]
              rfl
            refine pure_ (i := 7) (N := some 24) (v := ?_) (a' := ?_) #[true, true, true, false, true, false, true, true, false, false, false, false, false, false, false, false, false, false] rfl rfl (by kernel_rfl) (fun _ _ _ h => h) (Or.inl ⟨by rfl, ?_⟩) ?_ ?_
            rotate_left
            · intro w'
              go_simp
              with_reducible rfl
            rotate_left
            · simp only [Act.put, List.setIfInBounds_toArray, List.set_cons_zero, List.set_cons_succ, i64_w, i32_w]
              rfl
            refine pure_ (i := 8) (N := some 25) (v := ?_) (a' := ?_) #[true, true, true, false, true, false, true, true, true, false, false, false, false, false, false, false, false, false] rfl rfl (by kernel_rfl) (fun _ _ _ h => h) (Or.inl ⟨by rfl, ?_⟩) ?_ ?_
            rotate_left
            · intro w'
              go_simp
              with_reducible rfl
            rotate_left
            · simp only [Act.put, List.setIfInBounds_toArray, List.set_cons_zero, List.set_cons_succ, i64_w, i32_w]
              rfl
            refine pure_ (i := 10) (N := some 27) (v := ?_) (a' := ?_) #[true, true, true, false, true, false, true, true, true, false, true, false, false, false, false, false, false, false] rfl rfl (by kernel_rfl) (fun _ _ _ h => h) (Or.inl ⟨by rfl, ?_⟩) ?_ ?_
            rotate_left
            · intro w'
              go_simp
              with_reducible rfl
            rotate_left
            · simp only [Act.put, List.setIfInBounds_toArray, List.set_cons_zero, List.set_cons_succ, i64_w, i32_w]
              rfl
            refine take_ (i := 3) (N := some 20) (v := ?_) (a' := ?_) #[true, true, true, true, true, false, true, true, true, false, true, false, false, false, false, false, false, false] rfl rfl (by kernel_rfl) (fun _ _ _ h => h) (Or.inl ⟨by rfl, ?_⟩) hHeld ?_ ?_
            rotate_left
            · rintro w' ⟨s0, s1⟩
              go_simp
              with_reducible rfl
            rotate_left
            · simp only [Act.put, List.setIfInBounds_toArray, List.set_cons_zero, List.set_cons_succ, i64_w, i32_w]
              rfl
            refine take_ (i := 9) (N := some 26) (v := ?_) (a' := ?_) #[true, true, true, true, true, false, true, true, true, true, true, false, false, false, false, false, false, false] rfl rfl (by kernel_rfl) (fun _ _ _ h => h) (Or.inl ⟨by rfl, ?_⟩) hHeld ?_ ?_
            rotate_left
            · rintro w' ⟨s0, s1⟩
              go_simp
              with_reducible rfl
            rotate_left
            · simp only [Act.put, List.setIfInBounds_toArray, List.set_cons_zero, List.set_cons_succ, i64_w, i32_w]
              rfl
            refine one_ (i := 5) (N := some 22) #[true, true, true, true, true, true, true, true, true, true, true, false, false, false, false, false, false, false] rfl rfl (by kernel_rfl) (by decide) (fun K hK => ?_)
            refine goes_ Try.func52 (by kernel_rfl) rfl #[.slice (some ⟨gs, 0, none⟩) x.S.length cs, .int .i64 (i : Int)] (by rfl) rfl rfl (by simp only [List.map_toArray, List.map_cons, List.map_nil]; rfl) ?_
            with_reducible refine (dk_at gs x.S.length cs i _ HIS.out HCS.out HMS.out).mono ?_
            rintro e w3 ⟨rfl, rfl⟩
            refine ⟨_, rfl, ?_⟩
            refine hK.out _ _ ⟨hd0, hd1⟩ (fun hHeld => ?_)
            clear hK K
            refine norm_ (a' := ?_) ?_ ?_
            rotate_left
            · show Act.put _ (some 22) _ = _
              simp only [Act.put, List.setIfInBounds_toArray, List.set_cons_zero, List.set_cons_succ, i64_w, i32_w]
              rfl
            refine one_ (i := 11) (N := some 28) #[true, true, true, true, true, true, true, true, true, true, true, true, false, false, false, false, false, false] rfl rfl (by kernel_rfl) (by decide) (fun K hK => ?_)
            refine goes_ Try.func52 (by kernel_rfl) rfl #[.slice (some ⟨ge, 0, none⟩) x.E.length ce, .int .i64 (i : Int)] (by rfl) rfl rfl (by simp only [List.map_toArray, List.map_cons, List.map_nil]; rfl) ?_
            with_reducible refine (dk_at ge x.E.length ce i _ HIE.out HCE.out HME.out).mono ?_
            rintro e w3 ⟨rfl, rfl⟩
            refine ⟨_, rfl, ?_⟩
            refine hK.out _ _ ⟨hd0, hd1⟩ (fun hHeld => ?_)
            clear hK K
            refine norm_ (a' := ?_) ?_ ?_
            rotate_left
            · show Act.put _ (some 28) _ = _
              simp only [Act.put, List.setIfInBounds_toArray, List.set_cons_zero, List.set_cons_succ, i64_w, i32_w]
              rfl
            refine one_ (i := 12) (N := some 29) #[true, true, true, true, true, true, true, true, true, true, true, true, true, false, false, false, false, false] rfl rfl (by kernel_rfl) (by decide) (fun K hK => ?_)
            refine goes_ Try.func51 (by kernel_rfl) rfl #[.slice (some ⟨gs, i * 64, none⟩) 64 (cs - i * 64), .slice (some ⟨ge, i * 64, none⟩) 64 (ce - i * 64)] (by rfl) rfl rfl (by simp only [List.map_toArray, List.map_cons, List.map_nil]; rfl) ?_
            with_reducible refine (HEQ.out _ (below_drew HB.out)).mono ?_
            rintro e w5 ⟨rfl, ⟨nd, rfl⟩⟩
            refine ⟨_, rfl, ?_⟩
            refine hK.out _ _ ⟨hd0, hd1⟩ (fun hHeld => ?_)
            clear hK K
            refine norm_ (a' := ?_) ?_ ?_
            rotate_left
            · show Act.put _ (some 29) _ = _
              simp only [Act.put, List.setIfInBounds_toArray, List.set_cons_zero, List.set_cons_succ, i64_w, i32_w]
              rfl
            refine pure_ (i := 13) (N := some 30) (v := ?_) (a' := ?_) #[true, true, true, true, true, true, true, true, true, true, true, true, true, true, false, false, false, false] rfl rfl (by kernel_rfl) (fun _ _ _ h => h) (Or.inl ⟨by rfl, ?_⟩) ?_ ?_
            rotate_left
            · intro w'
              go_simp
              with_reducible rfl
            rotate_left
            · simp only [Act.put, List.setIfInBounds_toArray, List.set_cons_zero, List.set_cons_succ, i64_w, i32_w]
              rfl
            refine pure_ (i := 14) (N := some 31) (v := ?_) (a' := ?_) #[true, true, true, true, true, true, true, true, true, true, true, true, true, true, true, false, false, false] rfl rfl (by kernel_rfl) (fun _ _ _ h => h) (Or.inl ⟨by rfl, ?_⟩) ?_ ?_
            rotate_left
            · intro w'
              go_simp
              with_reducible rfl
            rotate_left
            · simp only [Act.put, List.setIfInBounds_toArray, List.set_cons_zero, List.set_cons_succ, i64_w, i32_w]
              rfl
            refine pure_ (i := 15) (N := some 32) (v := ?_) (a' := ?_) #[true, true, true, true, true, true, true, true, true, true, true, true, true, true, true, true, false, false] rfl rfl (by kernel_rfl) (fun _ _ _ h => h) (Or.inl ⟨by rfl, ?_⟩) ?_ ?_
            rotate_left
            · intro w'
              go_simp
              with_reducible rfl
            rotate_left
            · simp only [Act.put, List.setIfInBounds_toArray, List.set_cons_zero, List.set_cons_succ, i64_w, i32_w]
              rfl
            refine pure_ (i := 16) (N := some 33) (v := ?_) (a' := ?_) #[true, true, true, true, true, true, true, true, true, true, true, true, true, true, true, true, true, false] rfl rfl (by kernel_rfl) (fun _ _ _ h => h) (Or.inl ⟨by rfl, ?_⟩) ?_ ?_
            rotate_left
            · intro w'
              go_simp
              with_reducible rfl
            rotate_left
            · simp only [Act.put, List.setIfInBounds_toArray, List.set_cons_zero, List.set_cons_succ, i64_w, i32_w]
              rfl
            refine pure_ (i := 17) (N := some 34) (v := ?_) (a' := ?_) #[true, true, true, true, true, true, true, true, true, true, true, true, true, true, true, true, true, true] rfl rfl (by kernel_rfl) (fun _ _ _ h => h) (Or.inl ⟨by rfl, ?_⟩) ?_ ?_
            rotate_left
            · intro w'
              go_simp
              with_reducible rfl
            rotate_left
            · simp only [Act.put, List.setIfInBounds_toArray, List.set_cons_zero, List.set_cons_succ, i64_w, i32_w]
              rfl
            refine done_ (by kernel_rfl) ?_

            go_wp2
            go_roundw
            case rel => exact ⟨i + 1, P', cp - 1, ps, bc, by omega, rfl, by go_num, HCP2, HP2, HBL, HC2, ⟨Kd.R_drewN HRB.out _⟩, ⟨pw_below_drewN HB.out _⟩⟩
            case measure => simp [intOf]; omega
          · rw [if_neg (by exact e2)] at hcr
            have HC2 : Aside0 (crashL x.S x.E (cnt - (i + 1)) (i + 1) (splice bc (i * 64) (sec x.E i)) ps = x.crash ps0) := ⟨by rw [show cnt - (i + 1) = m by omega]; exact hcr⟩
            have t2 : (p.tmod 2 != 0) = true := by simpa using e2
            have t2' : (p.tmod 2 == 0) = false := by simpa using e2
            have HL2 : Aside0 ((splice bc (i * 64) (sec x.E i)).length = x.S.length) := ⟨by rw [length_splice _ _ _ (by rw [length_sec _ _ HIE.out, HBL.out]; exact HIS.out), HBL.out]⟩
            have HSE0 : Aside0 (∀ W, Below w.heap.size w W → (Kd.int .u8).C W (some ⟨ge, i * 64, none⟩) 64 (sec x.E i)) := ⟨fun W hW => Kd.C_below (C_sub HEC.out.2.2 HIE.out) hW⟩
            clear hcr hm q1 u1 HCR e2
            go_upto_region 5 with (fail)
            refine start_ (n := 18) (S := fun w' => w'.cell? ⟨d, 0, none⟩ = some (.slice (some ⟨gs, 0, none⟩) x.S.length cs) ∧ w'.cell? ⟨d, 1, none⟩ = some (.slice (some ⟨ge, 0, none⟩) x.E.length ce)) (ds := []) #[false, false, false, false, false, false, false, false, false, false, false, false, false, false, false, false, false, false] (by kernel_rfl) rfl rfl ⟨hd0, hd1⟩ (fun hHeld => ?_)
            refine pure_ (i := 0) (N := some 17) (v := ?_) (a' := ?_) #[true, false, false, false, false, false, false, false, false, false, false, false, false, false, false, false, false, false] rfl rfl (by kernel_rfl) (fun _ _ _ h => h) (Or.inl ⟨by rfl, ?_⟩) ?_ ?_
            rotate_left
            · intro w'
              go_simp
              with_reducible rfl
            rotate_left
            · simp only [Act.put, List.setIfInBounds_toArray, List.set_cons_zero, List.set_cons_succ, i64_w, i32_w]
              rfl
            refine pure_ (i := 1) (N := some 18) (v := ?_) (a' := ?_) #[true, true, false, false, false, false, false, false, false, false, false, false, false, false, false, false, false, false] rfl rfl (by kernel_rfl) (fun _ _ _ h => h) (Or.inl ⟨by rfl, ?_⟩) ?_ ?_
            rotate_left
            · intro w'
              go_simp
              with_reducible rfl
            rotate_left
            · simp only [Act.put, List.setIfInBounds_toArray, List.set_cons_zero, List.set_cons_succ, i64_w, i32_w]
              rfl
            refine pure_ (i := 2) (N := some 19) (v := ?_) (a' := ?_) #[true, true, true, false, false, false, false, false, false, false, false, false, false, false, false, false, false, false] rfl rfl (by kernel_rfl) (fun _ _ _ h => h) (Or.inl ⟨by rfl, ?_⟩) ?_ ?_
            rotate_left
            · intro w'
              go_simp
              with_reducible rfl
            rotate_left
            · simp only [Act.put, List.setIfInBounds_toArray, List.set_cons_zero, List.set_cons_succ, i64_w, i32_w]
              rfl
            refine pure_ (i := 4) (N := some 21) (v := ?_) (a' := ?_) #[true, true, true, false, true, false, false, false, false, false, false, false, false, false, false, false, false, false] rfl rfl (by kernel_rfl) (fun _ _ _ h => h) (Or.inl ⟨by rfl, ?_⟩) ?_ ?_
            rotate_left
            · intro w'
              go_simp
              with_reducible rfl
            rotate_left
            · simp only [Act.put, List.setIfInBounds_toArray, List.set_cons_zero, List.set_cons_succ, i64_w, i32_w]
              rfl
            refine pure_ (i := 6) (N := some 23) (v := ?_) (a' := ?_) #[true, true, true, false, true, false, true, false, false, false, false, false, false, false, false, false, false, false] rfl rfl (by kernel_rfl) (fun _ _ _ h => h) (Or.inl ⟨by rfl, ?_⟩) ?_ ?_
            rotate_left
            · intro w'
              go_simp
              with_reducible rfl
            rotate_left
            · simp only [Act.put, List.setIfInBounds_toArray, List.set_cons_zero, List.set_cons_succ, i64_w, i32_w]
              rfl
            refine pure_ (i := 7) (N := some 24) (v := ?_) (a' := ?_) #[true, true, true, false, true, false, true, true, false, false, false, false, false, false, false, false, false, false] rfl rfl (by kernel_rfl) (fun _ _ _ h => h) (Or.inl ⟨by rfl, ?_⟩) ?_ ?_
            rotate_left
            · intro w'
              go_simp
              with_reducible rfl
            rotate_left
            · simp only [Act.put, List.setIfInBounds_toArray, List.set_cons_zero, List.set_cons_succ, i64_w, i32_w]
              rfl
            refine pure_ (i := 8) (N := some 25) (v := ?_) (a' := ?_) #[true, true, true, false, true, false, true, true, true, false, false, false, false, false, false, false, false, false] rfl rfl (by kernel_rfl) (fun _ _ _ h => h) (Or.inl ⟨by rfl, ?_⟩) ?_ ?_
            rotate_left
            · intro w'
              go_simp
              with_reducible rfl
            rotate_left
            · simp only [Act.put, List.setIfInBounds_toArray, List.set_cons_zero, List.set_cons_succ, i64_w, i32_w]
              rfl
            refine pure_ (i := 10) (N := some 27) (v := ?_) (a' := ?_) #[true, true, true, false, true, false, true, true, true, false, true, false, false, false, false, false, false, false] rfl rfl (by kernel_rfl) (fun _ _ _ h => h) (Or.inl ⟨by rfl, ?_⟩) ?_ ?_
            rotate_left
            · intro w'
              go_simp
              with_reducible rfl
            rotate_left
            · simp only [Act.put, List.setIfInBounds_toArray, List.set_cons_zero, List.set_cons_succ, i64_w, i32_w]
              rfl
            refine take_ (i := 3) (N := some 20) (v := ?_) (a' := ?_) #[true, true, true, true, true, false, true, true, true, false, true, false, false, false, false, false, false, false] rfl rfl (by kernel_rfl) (fun _ _ _ h => h) (Or.inl ⟨by rfl, ?_⟩) hHeld ?_ ?_
            rotate_left
            · rintro w' ⟨s0, s1⟩
              go_simp
              with_reducible rfl
            rotate_left
            · simp only [Act.put, List.setIfInBounds_toArray, List.set_cons_zero, List.set_cons_succ, i64_w, i32_w]
              rfl
            refine take_ (i := 9) (N := some 26) (v := ?_) (a' := ?_) #[true, true, true, true, true, false, true, true, true, true, true, false, false, false, false, false, false, false] rfl rfl (by kernel_rfl) (fun _ _ _ h => h) (Or.inl ⟨by rfl, ?_⟩) hHeld ?_ ?_
            rotate_left
            · rintro w' ⟨s0, s1⟩
              go_simp
              with_reducible rfl
            rotate_left
            · simp only [Act.put, List.setIfInBounds_toArray, List.set_cons_zero, List.set_cons_succ, i64_w, i32_w]
              rfl
            refine one_ (i := 5) (N := some 22) #[true, true, true, true, true, true, true, true, true, true, true, false, false, false, false, false, false, false] rfl rfl (by kernel_rfl) (by decide) (fun K hK => ?_)
            refine goes_ Try.func52 (by kernel_rfl) rfl #[.slice (some ⟨gs, 0, none⟩) x.S.length cs, .int .i64 (i : Int)] (by rfl) rfl rfl (by simp only [List.map_toArray, List.map_cons, List.map_nil]; rfl) ?_
            with_reducible refine (dk_at gs x.S.length cs i _ HIS.out HCS.out HMS.out).mono ?_
            rintro e w3 ⟨rfl, rfl⟩
            refine ⟨_, rfl, ?_⟩
            refine hK.out _ _ ⟨hd0, hd1⟩ (fun hHeld => ?_)
            clear hK K
            refine norm_ (a' := ?_) ?_ ?_
            rotate_left
            · show Act.put _ (some 22) _ = _
              simp only [Act.put, List.setIfInBounds_toArray, List.set_cons_zero, List.set_cons_succ, i64_w, i32_w]
              rfl
            refine one_ (i := 11) (N := some 28) #[true, true, true, true, true, true, true, true, true, true, true, true, false, false, false, false, false, false] rfl rfl (by kernel_rfl) (by decide) (fun K hK => ?_)
            refine goes_ Try.func52 (by kernel_rfl) rfl #[.slice (some ⟨ge, 0, none⟩) x.E.length ce, .int .i64 (i : Int)] (by rfl) rfl rfl (by simp only [List.map_toArray, List.map_cons, List.map_nil]; rfl) ?_
            with_reducible refine (dk_at ge x.E.length ce i _ HIE.out HCE.out HME.out).mono ?_
            rintro e w3 ⟨rfl, rfl⟩
            refine ⟨_, rfl, ?_⟩
            refine hK.out _ _ ⟨hd0, hd1⟩ (fun hHeld => ?_)
            clear hK K
            refine norm_ (a' := ?_) ?_ ?_
            rotate_left
            · show Act.put _ (some 28) _ = _
              simp only [Act.put, List.setIfInBounds_toArray, List.set_cons_zero, List.set_cons_succ, i64_w, i32_w]
              rfl
            refine one_ (i := 12) (N := some 29) #[true, true, true, true, true, true, true, true, true, true, true, true, true, false, false, false, false, false] rfl rfl (by kernel_rfl) (by decide) (fun K hK => ?_)
            refine goes_ Try.func51 (by kernel_rfl) rfl #[.slice (some ⟨gs, i * 64, none⟩) 64 (cs - i * 64), .slice (some ⟨ge, i * 64, none⟩) 64 (ce - i * 64)] (by rfl) rfl rfl (by simp only [List.map_toArray, List.map_cons, List.map_nil]; rfl) ?_
            with_reducible refine (HEQ.out _ (below_drew HB.out)).mono ?_
            rintro e w5 ⟨rfl, ⟨nd, rfl⟩⟩
            refine ⟨_, rfl, ?_⟩
            refine hK.out _ _ ⟨hd0, hd1⟩ (fun hHeld => ?_)
            clear hK K
            refine norm_ (a' := ?_) ?_ ?_
            rotate_left
            · show Act.put _ (some 29) _ = _
              simp only [Act.put, List.setIfInBounds_toArray, List.set_cons_zero, List.set_cons_succ, i64_w, i32_w]
              rfl
            refine pure_ (i := 13) (N := some 30) (v := ?_) (a' := ?_) #[true, true, true, true, true, true, true, true, true, true, true, true, true, true, false, false, false, false] rfl rfl (by kernel_rfl) (fun _ _ _ h => h) (Or.inl ⟨by rfl, ?_⟩) ?_ ?_
            rotate_left
            · intro w'
              go_simp
              with_reducible rfl
            rotate_left
            · simp only [Act.put, List.setIfInBounds_toArray, List.set_cons_zero, List.set_cons_succ, i64_w, i32_w]
              rfl
            refine pure_ (i := 14) (N := some 31) (v := ?_) (a' := ?_) #[true, true, true, true, true, true, true, true, true, true, true, true, true, true, true, false, false, false] rfl rfl (by kernel_rfl) (fun _ _ _ h => h) (Or.inl ⟨by rfl, ?_⟩) ?_ ?_
            rotate_left
            · intro w'
              go_simp
              with_reducible rfl
            rotate_left
            · simp only [Act.put, List.setIfInBounds_toArray, List.set_cons_zero, List.set_cons_succ, i64_w, i32_w]
              rfl
            refine pure_ (i := 15) (N := some 32) (v := ?_) (a' := ?_) #[true, true, true, true, true, true, true, true, true, true, true, true, true, true, true, true, false, false] rfl rfl (by kernel_rfl) (fun _ _ _ h => h) (Or.inl ⟨by rfl, ?_⟩) ?_ ?_
            rotate_left
            · intro w'
              go_simp
              with_reducible rfl
            rotate_left
            · simp only [Act.put, List.setIfInBounds_toArray, List.set_cons_zero, List.set_cons_succ, i64_w, i32_w]
              rfl
            refine pure_ (i := 16) (N := some 33) (v := ?_) (a' := ?_) #[true, true, true, true, true, true, true, true, true, true, true, true, true, true, true, true, true, false] rfl rfl (by kernel_rfl) (fun _ _ _ h => h) (Or.inl ⟨by rfl, ?_⟩) ?_ ?_
            rotate_left
            · intro w'
              go_simp
              with_reducible rfl
            rotate_left
            · simp only [Act.put, List.setIfInBounds_toArray, List.set_cons_zero, List.set_cons_succ, i64_w, i32_w]
              rfl
            refine pure_ (i := 17) (N := some 34) (v := ?_) (a' := ?_) #[true, true, true, true, true, true, true, true, true, true, true, true, true, true, true, true, true, true] rfl rfl (by kernel_rfl) (fun _ _ _ h => h) (Or.inl ⟨by rfl, ?_⟩) ?_ ?_
            rotate_left
            · intro w'
              go_simp
              with_reducible rfl
            rotate_left
            · simp only [Act.put, List.setIfInBounds_toArray, List.set_cons_zero, List.set_cons_succ, i64_w, i32_w]
              rfl
            refine done_ (by kernel_rfl) ?_

            go_upto_region 7 with (fail)
            have HRX := Aside0.mk (Kd.R_drewN HRB.out (1 + nd + 1))
            have HBX := Aside0.mk (pw_below_drewN HB.out (1 + nd + 1))
            have HSE := Aside0.mk (HSE0.out _ HBX.out)
            refine start_ (n := 10) (S := fun w' => w'.cell? ⟨d, 1, none⟩ = some (.slice (some ⟨ge, 0, none⟩) x.E.length ce)) (ds := [9]) #[false, false, false, false, false, false, false, false, false, false] (by kernel_rfl) rfl rfl (hd1) (fun hHeld => ?_)
            refine pure_ (i := 0) (N := some 40) (v := ?_) (a' := ?_) #[true, false, false, false, false, false, false, false, false, false] rfl rfl (by kernel_rfl) (fun _ _ _ h => h) (Or.inl ⟨by rfl, ?_⟩) ?_ ?_
            rotate_left
            · intro w'
              go_simp
              with_reducible rfl
            rotate_left
            · simp only [Act.put, List.setIfInBounds_toArray, List.set_cons_zero, List.set_cons_succ, i64_w, i32_w]
              rfl
            refine pure_ (i := 1) (N := some 41) (v := ?_) (a' := ?_) #[true, true, false, false, false, false, false, false, false, false] rfl rfl (by kernel_rfl) (fun _ _ _ h => h) (Or.inl ⟨by rfl, ?_⟩) ?_ ?_
            rotate_left
            · intro w'
              go_simp
              with_reducible rfl
            rotate_left
            · simp only [Act.put, List.setIfInBounds_toArray, List.set_cons_zero, List.set_cons_succ, i64_w, i32_w]
              rfl
            refine pure_ (i := 3) (N := some 43) (v := ?_) (a' := ?_) #[true, true, false, true, false, false, false, false, false, false] rfl rfl (by kernel_rfl) (fun _ _ _ h => h) (Or.inl ⟨by rfl, ?_⟩) ?_ ?_
            rotate_left
            · intro w'
              go_simp
              with_reducible rfl
            rotate_left
            · simp only [Act.put, List.setIfInBounds_toArray, List.set_cons_zero, List.set_cons_succ, i64_w, i32_w]
              rfl
            refine pure_ (i := 4) (N := some 44) (v := ?_) (a' := ?_) #[true, true, false, true, true, false, false, false, false, false] rfl rfl (by kernel_rfl) (fun _ _ _ h => h) (Or.inl ⟨by rfl, ?_⟩) ?_ ?_
            rotate_left
            · intro w'
              go_simp
              with_reducible rfl
            rotate_left
            · simp only [Act.put, List.setIfInBounds_toArray, List.set_cons_zero, List.set_cons_succ, i64_w, i32_w]
              rfl
            refine pure_ (i := 5) (N := some 45) (v := ?_) (a' := ?_) #[true, true, false, true, true, true, false, false, false, false] rfl rfl (by kernel_rfl) (fun _ _ _ h => h) (Or.inl ⟨by rfl, ?_⟩) ?_ ?_
            rotate_left
            · intro w'
              go_simp
              with_reducible rfl
            rotate_left
            · simp only [Act.put, List.setIfInBounds_toArray, List.set_cons_zero, List.set_cons_succ, i64_w, i32_w]
              rfl
            refine pure_ (i := 7) (N := some 47) (v := ?_) (a' := ?_) #[true, true, false, true, true, true, false, true, false, false] rfl rfl (by kernel_rfl) (fun _ _ _ h => h) (Or.inl ⟨by rfl, ?_⟩) ?_ ?_
            rotate_left
            · intro w'
              go_simp
              with_reducible rfl
            rotate_left
            · simp only [Act.put, List.setIfInBounds_toArray, List.set_cons_zero, List.set_cons_succ, i64_w, i32_w]
              rfl
            refine take_ (i := 6) (N := some 46) (v := ?_) (a' := ?_) #[true, true, false, true, true, true, true, true, false, false] rfl rfl (by kernel_rfl) (fun _ _ _ h => h) (Or.inl ⟨by rfl, ?_⟩) hHeld ?_ ?_
            rotate_left
            · intro w' s0
              go_simp
              with_reducible rfl
            rotate_left
            · simp only [Act.put, List.setIfInBounds_toArray, List.set_cons_zero, List.set_cons_succ, i64_w, i32_w]
              rfl
            refine one_ (i := 2) (N := some 42) #[true, true, true, true, true, true, true, true, false, false] rfl rfl (by kernel_rfl) (by decide) (fun K hK => ?_)
            refine goes_ Try.func52 (by kernel_rfl) rfl #[.slice (some ⟨gb, 0, none⟩) x.S.length cb, .int .i64 (i : Int)] (by rfl) rfl rfl (by simp only [List.map_toArray, List.map_cons, List.map_nil]; rfl) ?_
            with_reducible refine (dk_at gb x.S.length cb i _ HIS.out HCB.out HMS.out).mono ?_
            rintro e w3 ⟨rfl, rfl⟩
            refine ⟨_, rfl, ?_⟩
            refine hK.out _ _ (hd1) (fun hHeld => ?_)
            clear hK K
            refine norm_ (a' := ?_) ?_ ?_
            rotate_left
            · show Act.put _ (some 42) _ = _
              simp only [Act.put, List.setIfInBounds_toArray, List.set_cons_zero, List.set_cons_succ, i64_w, i32_w]
              rfl
            refine one_ (i := 8) (N := some 48) #[true, true, true, true, true, true, true, true, true, false] rfl rfl (by kernel_rfl) (by decide) (fun K hK => ?_)
            refine goes_ Try.func52 (by kernel_rfl) rfl #[.slice (some ⟨ge, 0, none⟩) x.E.length ce, .int .i64 (i : Int)] (by rfl) rfl rfl (by simp only [List.map_toArray, List.map_cons, List.map_nil]; rfl) ?_
            with_reducible refine (dk_at ge x.E.length ce i _ HIE.out HCE.out HME.out).mono ?_
            rintro e w3 ⟨rfl, rfl⟩
            refine ⟨_, rfl, ?_⟩
            refine hK.out _ _ (hd1) (fun hHeld => ?_)
            clear hK K
            refine norm_ (a' := ?_) ?_ ?_
            rotate_left
            · show Act.put _ (some 48) _ = _
              simp only [Act.put, List.setIfInBounds_toArray, List.set_cons_zero, List.set_cons_succ, i64_w, i32_w]
              rfl
            refine last_ (i := 9) (N := some 49) #[true, true, true, true, true, true, true, true, true, true] rfl rfl (by kernel_rfl) (by decide) (fun K hK => ?_)
            refine step_copy_R rfl (.tmp 42) (.tmp 48) 30 30 rfl 5 Try.underlying30 (by kernel_rfl) gb (i * 64) x.S.length cb 64 (cb - i * 64) 64 (ce - i * 64) (some ⟨ge, i * 64, none⟩) .u8 w.heap.size (fun _ => True) bc (sec x.E i) rfl rfl HRB.out HSE.out (by decide) (by decide) HIS.out ?_
            intro w7 HR7 HG7
            refine hK.out _ _ ?_
            clear hK K
            refine norm_ (a' := ?_) ?_ ?_
            rotate_left
            · show Act.put _ (some 49) _ = _
              simp only [Act.put, List.setIfInBounds_toArray, List.set_cons_zero, List.set_cons_succ, i64_w, i32_w]
              rfl
            refine done_ (by kernel_rfl) ?_

            go_wp2
            go_roundw
            case rel => exact ⟨i + 1, P', cp - 1, ps, splice bc (i * 64) (sec x.E i), by omega, rfl, by go_num, HCP2, HP2, HL2, HC2, HR7, ⟨pw_below_grown HBX.out (some gb) HBX.out.size HG7.out (fun k hk => by injection hk with hk; subst hk; exact Kd.R_base HRB.out _ rfl)⟩⟩
            case measure => simp [intOf]; omega
    · have he : i = cnt := by omega
      have HE := Aside0.mk he
      clear he
      go_wp2
      go_ret
      refine ⟨_, rfl, ?_, HB.out⟩
      have h1 := HCR.out
      rw [HE.out, Nat.sub_self, crashL] at h1
      rw [← h1]
      exact HRB.out

end Go.Proofs.Ytpkhpfgojhojaaa.PLg

namespace Go.Proofs.Ytpkhpfgojhojaaa.PLg
open Go.RowKit Go.Proofs.YtpkhpfgojhojaaaW.PrintWords Go.Proofs.YtpkhpfgojhojaaaW.PrintLast Go.Proofs.YtpkhpfgojhojaaaW.PrintMore
attribute [local go_sem] max2_int min2_int max_two min_two max_three min_three max_four min_four
set_option linter.unusedVariables false
set_option linter.unusedSimpArgs false
-- IMPORT: Derived.Test.@N@WOwn
-- IMPORT: Derived.Test.@N@DRead
-- IMPORT: Derived.Maps.Views
def trOf (ts : List S45) (i : Int) : Bool := ts.any (fun t => t.f0 == i)
def Dk.new (I : List Int) (ts : List S45) : Dk := { S := I, E := I, tr := trOf ts, n := 0, off := false }
def DkGood (I : List Int) (ts : List S45) : Prop := I.length % 64 = 0 ∧ 64 ≤ I.length ∧ I.length ≤ 1048576 ∧ ∀ t ∈ ts, 1 ≤ t.f0
/-- A disk being made: j troubles are laid. -/
def NewAt (w : World) (base d bm gs cs ge ce j : Nat) (I : List Int) (ts : List S45) : Prop :=
  ∃ D : DataW Unit, w.heap[d]? = some (.cells #[.slice (some ⟨gs, 0, none⟩) I.length cs, .slice (some ⟨ge, 0, none⟩) I.length ce, .map (some bm), .int .i64 0, .bool false] 82 (0, 0)) ∧
    (Kd.int .u8).R 5 w base (fun _ => True) (.slice (some ⟨gs, 0, none⟩) I.length cs) I ∧ (Kd.int .u8).R 5 w base (fun _ => True) (.slice (some ⟨ge, 0, none⟩) I.length ce) I ∧ gs ≠ ge ∧
    w.ownsMap Try.prog 3 (plainElem Try.prog 4) bm j D ∧ (∀ i : Int, (Lit.int .i64 i).wf = true → D.atKey (.int .i64 i) (.lit (.bool false)) = .lit (.bool (trOf (ts.take j) i))) ∧ base ≤ d ∧ base ≤ bm
theorem map_ne_cells {w : World} {P : Program} {k : TypeId} {R : Value → Option (DataW Unit × List MemPlace)} {b n g : Nat} {D : DataW Unit} {cs : Array Value} {t : TypeId} (h : w.ownsMap P k R b n D) (hg : w.heap[g]? = some (.cells cs t (0, 0))) : g ≠ b := by
  rintro rfl
  obtain ⟨es, clock, hm, _⟩ := h
  rw [hg] at hm
  cases hm
section
variable {w w' : World} {base d bm gs cs ge ce j : Nat} {I : List Int} {ts : List S45}
theorem NewAt.below (h : NewAt w base d bm gs cs ge ce j I ts) (hb : Below w.heap.size w w') : NewAt w' base d bm gs cs ge ce j I ts := by
  obtain ⟨D, h1, h2, h3, h4, h5, h6, h7, h8⟩ := h
  exact ⟨D, blk_below h1 hb, Kd.R_below h2 hb, Kd.R_below h3 hb, h4, ownsMap_move h5 (hb.block bm h5.lt), h6, h7, h8⟩
theorem trOf_next (i : Int) (hj : j < ts.length) : trOf (ts.take (j + 1)) i = (trOf (ts.take j) i || (rd_T45 ts j).f0 == i) := by
  unfold trOf rd_T45
  rw [List.take_succ_eq_append_getElem hj, List.any_append, Int.toNat_natCast, List.getD_eq_getElem?_getD, List.getElem?_eq_getElem hj]
  simp
theorem NewAt.put {D : DataW Unit} (h1 : w.heap[d]? = some (.cells #[.slice (some ⟨gs, 0, none⟩) I.length cs, .slice (some ⟨ge, 0, none⟩) I.length ce, .map (some bm), .int .i64 0, .bool false] 82 (0, 0)))
    (h2 : (Kd.int .u8).R 5 w base (fun _ => True) (.slice (some ⟨gs, 0, none⟩) I.length cs) I) (h3 : (Kd.int .u8).R 5 w base (fun _ => True) (.slice (some ⟨ge, 0, none⟩) I.length ce) I) (h4 : gs ≠ ge)
    (h5 : w.ownsMap Try.prog 3 (plainElem Try.prog 4) bm j D) (h6 : ∀ i : Int, (Lit.int .i64 i).wf = true → D.atKey (.int .i64 i) (.lit (.bool false)) = .lit (.bool (trOf (ts.take j) i))) (h7 : base ≤ d) (h8 : base ≤ bm) (hj : j < ts.length)
    (hg : w.grownBy w' (some bm)) (ho : w'.ownsMap Try.prog 3 (plainElem Try.prog 4) bm (j + 1) (D.put (.int .i64 (rd_T45 ts j).f0) (.lit (.bool true)))) : NewAt w' base d bm gs cs ge ce (j + 1) I ts := by
  have hr : ∀ {g c : Nat}, (Kd.int .u8).R 5 w base (fun _ => True) (.slice (some ⟨g, 0, none⟩) I.length c) I → (Kd.int .u8).R 5 w' base (fun _ => True) (.slice (some ⟨g, 0, none⟩) I.length c) I := fun {g c} h => by
    obtain ⟨cur, hcur, _⟩ := R_cur h
    refine Kd.R_mono (Kd.R_grown (Kd.R_flat (ok' := fun k => some k ≠ some bm) (fun hd => hd) h (fun k hk _ => ?_)) hg (fun k hk => hk)) (fun _ _ => trivial)
    injection hk with hk
    subst hk
    exact fun e => map_ne_cells h5 hcur (Option.some.inj e)
  refine ⟨_, blk_grown h1 hg (fun e => map_ne_cells h5 h1 (Option.some.inj e)), hr h2, hr h3, h4, ho, fun i hi => ?_, h7, h8⟩
  rw [trOf_next i hj]
  obtain ⟨es, clock, _, _, _, rfl⟩ := h5
  by_cases e : (rd_T45 ts j).f0 = i
  · rw [e, Maps.atKey_put_same (k := .int .i64 i) ⟨_, rfl⟩ (show WideAt.IsKeyLit (.int .i64 i) from trivial), beq_self_eq_true, Bool.or_true]
  · rw [Maps.atKey_put_other (by intro h; injection h with _ h; exact e h.symm), h6 i hi, beq_eq_false_iff_ne.2 e, Bool.or_false]
theorem NewAt.done (h : NewAt w base d bm gs cs ge ce ts.length I ts) (hI : I.length % 64 = 0 ∧ 64 ≤ I.length ∧ I.length ≤ 1048576) : DkAt w base (fun _ => True) d (Dk.new I ts) := by
  obtain ⟨D, h1, h2, h3, h4, h5, h6, h7, h8⟩ := h
  rw [List.take_length] at h6
  exact ⟨gs, cs, ge, ce, bm, _, D, h1, h2, h3, h4, h5, h6, h7, trivial, h8, trivial, rfl, hI⟩
end
/-- What New ends with. -/
def NewPost (w : World) (I : List Int) (ts : List S45) (e : Ending) (w' : World) : Prop :=
  Below w.heap.size w w' ∧ ((DkGood I ts ∧ ∃ d, e = .returned (.tuple #[.pointer (some ⟨d, 0, none⟩), .int .i64 0]) ∧ DkAt w' w.heap.size (fun _ => True) d (Dk.new I ts)) ∨ (¬ DkGood I ts ∧ e = .returned (.tuple #[.pointer none, .int .i64 100])))
set_option maxHeartbeats 8000000 in
set_option maxRecDepth 100000 in
theorem dk_New_may (A : Option Addr) (c : Nat) (I : List Int) (T : Option Addr) (ct : Nat) (ts : List S45) (w : World) (hI : (Kd.int .u8).C w A I.length I) (hc : I.length ≤ c) (hT : Kd.C k45 w T ts.length ts) (hw : ∀ t ∈ ts, (Lit.int .i64 t.f0).wf = true) (hgood : I.length % 64 = 0 ∧ 64 ≤ I.length ∧ I.length ≤ 1048576) :
    Calls Try.prog 9 #[.slice A I.length c, .slice T ts.length ct] w (NewPost w I ts) := by
  have HG := Aside0.mk hgood
  have HI := Aside0.mk hI
  have HCI := Aside0.mk hc
  have HT := Aside0.mk hT
  have HW := Aside0.mk hw
  obtain ⟨k1, k2, k3⟩ := hgood
  have hmax := hI.2.1
  have htm := hT.2.1
  have t1 : ((I.length : Int) % 64 != 0) = false := by simp; omega
  have t1' : (I.length % 64 != 0) = false := by simp; omega
  have t2 : decide ((I.length : Int) / 64 < 1) = false := decide_eq_false (by omega)
  have t2' : decide (I.length / 64 < 1) = false := decide_eq_false (by omega)
  have t3 : decide ((I.length : Int) / 64 > 16384) = false := decide_eq_false (by omega)
  have t3' : decide (16384 < (I.length : Int) / 64) = false := decide_eq_false (by omega)
  have hmm := @run_makeMap Try.prog
  have hds := Try.underlying82
  have hts := Try.underlying45
  clear k1 k2 k3 hI hc hT hw
  go_enter Try.func9, Try.ntmps9
  go_wp2_with fail
  refine (slices_Clone_byte_byte.calls A c I I _ HI.out HCI.out (clone_some HG.out.2.2)).mono ?_
  rintro e w1 ⟨v1, rfl, hR1, hb1⟩
  obtain ⟨gs, cs, rfl, _⟩ := Kd.R_form hR1 (by have := HG.out.2.1; omega)
  have HR1 := Aside0.mk hR1
  have HB1 := Aside0.mk hb1
  clear hR1 hb1
  go_wp2_with fail
  refine (slices_Clone_byte_byte.calls A c I I _ (Kd.C_below HI.out HB1.out) HCI.out (clone_some HG.out.2.2)).mono ?_
  rintro e w2 ⟨v2, rfl, hR2, hb2⟩
  obtain ⟨ge, ce, rfl, _⟩ := Kd.R_form hR2 (by have := HG.out.2.1; omega)
  have HR2 := Aside0.mk hR2
  have HB2 := Aside0.mk hb2
  clear hR2 hb2
  go_wp2
  obtain ⟨d, hd⟩ : ∃ d, d = w2.heap.size + 1 := ⟨_, rfl⟩
  obtain ⟨bm, hbm⟩ : ∃ bm, bm = w2.heap.size := ⟨_, rfl⟩
  have HSTART : Aside0 (NewAt ((w2.alloc (.map #[] 0)).alloc (.cells #[.slice (some ⟨gs, 0, none⟩) I.length cs, .slice (some ⟨ge, 0, none⟩) I.length ce, .map (some w2.heap.size), .int .i64 0, .bool false] 82)) w.heap.size (w2.heap.size + 1) w2.heap.size gs cs ge ce 0 I ts) := ⟨by
    have e1 : (w2.alloc (.map #[] 0)).heap.size = w2.heap.size + 1 := World.size_alloc _ _
    have hb := blk_new (w2.alloc (.map #[] 0)) (.cells #[.slice (some ⟨gs, 0, none⟩) I.length cs, .slice (some ⟨ge, 0, none⟩) I.length ce, .map (some w2.heap.size), .int .i64 0, .bool false] 82)
    rw [e1] at hb
    have s1 := HB1.out.size
    have s2 := HB2.out.size
    refine ⟨_, hb, Kd.R_alloc (Kd.R_alloc (Kd.R_below HR1.out HB2.out) _) _, Kd.R_alloc (Kd.R_alloc (Kd.R_lower HR2.out s1) _) _, ?_, (World.ownsMap_made w2 _ _ _).alloc _, fun i hi => rfl, by omega, by omega⟩
    have h1 := Kd.R_lt HR1.out gs rfl
    have h2 := Kd.R_base HR2.out ge rfl
    omega⟩
  have HBEL : Aside0 (Below w.heap.size w ((w2.alloc (.map #[] 0)).alloc (.cells #[.slice (some ⟨gs, 0, none⟩) I.length cs, .slice (some ⟨ge, 0, none⟩) I.length ce, .map (some w2.heap.size), .int .i64 0, .bool false] 82))) := ⟨below_alloc (below_alloc (below_step HB1.out HB2.out) _) _⟩
  clear HR1 HR2 HB1 HB2
  rw [← hd, ← hbm] at HSTART
  rw [← hbm] at HBEL
  rw [← hd, ← hbm]
  have HD := Aside0.mk hd
  have HBM := Aside0.mk hbm
  clear hd hbm t1 t1' t2 t2' t3 t3'
  go_loopw [34] (fun v34 w' => ∃ j : Nat, j ≤ ts.length ∧ v34 = .int .i64 j ∧ Aside0 (∀ i : Nat, i < j → 1 ≤ (rd_T45 ts i).f0) ∧ Aside0 (NewAt w' w.heap.size d bm gs cs ge ce j I ts) ∧ Aside0 (Below w.heap.size w w')) (fun v34 _ => ts.length - (intOf v34).toNat)
  case atStart => exact ⟨0, Nat.zero_le _, rfl, ⟨fun i hi => absurd hi (Nat.not_lt_zero _)⟩, HSTART, HBEL⟩
  case round =>
    clear HSTART HBEL HD HBM
    obtain ⟨j, hj, rfl, HALL, HAT, HB⟩ := hrel
    by_cases hlt : j < ts.length
    · obtain ⟨ta, rfl, hq⟩ := at_T45 (Kd.C_below HT.out HB.out) (j : Int) (by omega) (by omega)
      rw [Int.toNat_natCast] at hq
      have HQW : Aside0 ((Lit.int .i64 (rd_T45 ts (j : Int)).f0).wf = true) := ⟨HW.out _ (by unfold rd_T45; rw [Int.toNat_natCast, List.getD_eq_getElem?_getD, List.getElem?_eq_getElem hlt]; exact List.getElem_mem _)⟩
      obtain ⟨q, hqq⟩ : ∃ q, q = (rd_T45 ts (j : Int)).f0 := ⟨_, rfl⟩
      rw [← hqq] at hq HQW
      have HQQ := Aside0.mk hqq
      clear hqq
      by_cases h1 : q < 1
      · have u1 : decide (q < 1) = true := decide_eq_true h1
        have HN : Aside0 (¬ DkGood I ts) := ⟨fun h => by
          have := h.2.2.2 (rd_T45 ts (j : Int)) (by unfold rd_T45; rw [Int.toNat_natCast, List.getD_eq_getElem?_getD, List.getElem?_eq_getElem hlt]; exact List.getElem_mem _)
          rw [HQQ.out] at h1; omega⟩
        clear h1
        go_wp2
        go_ret2
        exact ⟨by repeat (first | exact HB.out | apply below_alloc | apply below_drew), .inr ⟨HN.out, rfl⟩⟩
      · have u1 : decide (q < 1) = false := decide_eq_false h1
        have H1Q : Aside0 (1 ≤ q) := ⟨by omega⟩
        clear h1
        have HX := Aside0.mk (HAT.out.below (below_drew (below_alloc (Below.refl wr.heap.size wr) (.cells #[.int .i64 q] 45))))
        obtain ⟨D, z1, z2, z3, z4, z5, z6, z7, z8⟩ := HX.out
        have HPUT := Aside0.mk (fun (w' : World) (hg : (wr.alloc (.cells #[.int .i64 q] 45)).drew.grownBy w' (some bm)) (ho : w'.ownsMap Try.prog 3 (plainElem Try.prog 4) bm (j + 1) (D.put (.int .i64 q) (.lit (.bool true)))) => NewAt.put z1 z2 z3 z4 z5 z6 z7 z8 hlt hg (by rw [← HQQ.out]; exact ho))
        have hy2 := (blk_cell z1 2).trans rfl
        have hyt : (wr.alloc (.cells #[.int .i64 q] 45)).drew.cell? ⟨wr.heap.size, 0, none⟩ = some (.int .i64 q) := (blk_cell (blk_new wr (.cells #[.int .i64 q] 45)) 0).trans rfl
        have HOWN := Aside0.mk z5
        have HJM : Aside0 (j < maxLen) := ⟨by unfold maxLen; omega⟩
        have HBMW : Aside0 (w.heap.size ≤ bm) := ⟨z8⟩
        clear z1 z2 z3 z4 z5 z6 z7 z8 HX
        go_upto_region 10 with (fail)
        refine start_ (n := 7) (S := fun w' => w'.cell? ⟨d, 2, none⟩ = some (.map (some bm)) ∧ w'.cell? ⟨wr.heap.size, 0, none⟩ = some (.int .i64 q)) (ds := [6]) #[false, false, false, false, false, false, false] (by kernel_rfl) rfl rfl ⟨hy2, hyt⟩ (fun hHeld => ?_)
        refine pure_ (i := 0) (N := some 41) (v := ?_) (a' := ?_) #[true, false, false, false, false, false, false] rfl rfl (by kernel_rfl) (fun _ _ _ h => h) (Or.inl ⟨by rfl, ?_⟩) ?_ ?_
        rotate_left
        · intro w'
          go_simp
          with_reducible rfl
        rotate_left
        · simp only [Act.put, List.setIfInBounds_toArray, List.set_cons_zero, List.set_cons_succ, i64_w, i32_w]
          rfl
        refine pure_ (i := 1) (N := some 42) (v := ?_) (a' := ?_) #[true, true, false, false, false, false, false] rfl rfl (by kernel_rfl) (fun _ _ _ h => h) (Or.inl ⟨by rfl, ?_⟩) ?_ ?_
        rotate_left
        · intro w'
          go_simp
          with_reducible rfl
        rotate_left
        · simp only [Act.put, List.setIfInBounds_toArray, List.set_cons_zero, List.set_cons_succ, i64_w, i32_w]
          rfl
        refine pure_ (i := 2) (N := some 43) (v := ?_) (a' := ?_) #[true, true, true, false, false, false, false] rfl rfl (by kernel_rfl) (fun _ _ _ h => h) (Or.inl ⟨by rfl, ?_⟩) ?_ ?_
        rotate_left
        · intro w'
          go_simp
          with_reducible rfl
        rotate_left
        · simp only [Act.put, List.setIfInBounds_toArray, List.set_cons_zero, List.set_cons_succ, i64_w, i32_w]
          rfl
        refine pure_ (i := 4) (N := some 45) (v := ?_) (a' := ?_) #[true, true, true, false, true, false, false] rfl rfl (by kernel_rfl) (fun _ _ _ h => h) (Or.inl ⟨by rfl, ?_⟩) ?_ ?_
        rotate_left
        · intro w'
          go_simp
          with_reducible rfl
        rotate_left
        · simp only [Act.put, List.setIfInBounds_toArray, List.set_cons_zero, List.set_cons_succ, i64_w, i32_w]
          rfl
        refine take_ (i := 3) (N := some 44) (v := ?_) (a' := ?_) #[true, true, true, true, true, false, false] rfl rfl (by kernel_rfl) (fun _ _ _ h => h) (Or.inl ⟨by rfl, ?_⟩) hHeld ?_ ?_
        rotate_left
        · rintro w' ⟨s0, s1⟩
          go_simp
          with_reducible rfl
        rotate_left
        · simp only [Act.put, List.setIfInBounds_toArray, List.set_cons_zero, List.set_cons_succ, i64_w, i32_w]
          rfl
        refine take_ (i := 5) (N := some 46) (v := ?_) (a' := ?_) #[true, true, true, true, true, true, false] rfl rfl (by kernel_rfl) (fun _ _ _ h => h) (Or.inl ⟨by rfl, ?_⟩) hHeld ?_ ?_
        rotate_left
        · rintro w' ⟨s0, s1⟩
          go_simp
          with_reducible rfl
        rotate_left
        · simp only [Act.put, List.setIfInBounds_toArray, List.set_cons_zero, List.set_cons_succ, i64_w, i32_w]
          rfl
        refine last_ (i := 6) (N := none) #[true, true, true, true, true, true, true] rfl rfl (by kernel_rfl) (by decide) (fun K hK => ?_)
        obtain ⟨w6, hrun6, hown6, hg6⟩ := HOWN.out.update (Maps.int_keyed Try.underlying3) Try.underlying80 HJM.out (Maps.keyOf_int_mk Try.underlying3 HQW.out) (plainElem_bool Try.underlying4 true)
        have HO6 := Aside0.mk hown6
        have HG6 := Aside0.mk hg6
        refine skip_ (w1 := w6) (by rfl) rfl (by simp [execOp, Act.eval, hrun6, Result.andThen]) ?_
        clear hrun6 hown6 hg6
        refine hK.out _ _ ?_
        clear hK K
        refine done_ (by kernel_rfl) ?_

        go_wp2
        go_roundw
        case rel => exact ⟨j + 1, by omega, by go_num, ⟨fun i hi => by
          by_cases e : i = j
          · rw [e, ← HQQ.out]; exact H1Q.out
          · exact HALL.out i (by omega)⟩, ⟨HPUT.out _ HG6.out HO6.out⟩, ⟨pw_below_grown (below_drew (below_alloc HB.out (.cells #[.int .i64 q] 45))) (some bm) (Nat.le_trans HB.out.size (by show wr.heap.size ≤ _; exact (below_drew (below_alloc (Below.refl wr.heap.size wr) (.cells #[.int .i64 q] 45))).size)) HG6.out (fun k hk => by injection hk with hk; subst hk; exact HBMW.out)⟩⟩
        case measure => simp [intOf]; omega
    · have he : j = ts.length := by omega
      have HGOOD : Aside0 (DkGood I ts) := ⟨HG.out.1, HG.out.2.1, HG.out.2.2, fun t ht => by
        obtain ⟨i, hi, rfl⟩ := List.mem_iff_getElem.1 ht
        have := HALL.out i (by omega)
        unfold rd_T45 at this
        rw [Int.toNat_natCast, List.getD_eq_getElem?_getD, List.getElem?_eq_getElem hi] at this
        exact this⟩
      have HE := Aside0.mk he
      clear he
      go_wp2
      go_ret2
      refine ⟨HB.out, .inl ⟨HGOOD.out, d, rfl, ?_⟩⟩
      have := HAT.out
      rw [HE.out] at this
      exact this.done HG.out

end Go.Proofs.Ytpkhpfgojhojaaa.PLg

namespace Go.Proofs.Ytpkhpfgojhojaaa.PLg
open Go.RowKit Go.Proofs.YtpkhpfgojhojaaaW.PrintWords Go.Proofs.YtpkhpfgojhojaaaW.PrintLast Go.Proofs.YtpkhpfgojhojaaaW.PrintMore
attribute [local go_sem] max2_int min2_int max_two min_two max_three min_three max_four min_four
set_option linter.unusedVariables false
set_option linter.unusedSimpArgs false
-- IMPORT: Derived.Test.@N@WOwn
-- IMPORT: Derived.Test.@N@DStroke
theorem cell_c {W : World} {g : Nat} {a : Value} {t : TypeId} (h : W.heap[g]? = some (.cells #[a] t (0, 0))) : W.cell? ⟨g, 0, none⟩ = some a := (blk_cell h 0).trans rfl
/-- The three boxes that Write lays. -/
def boxW (w : World) (d : Nat) (i : Int) (B : Option Addr) (n c : Nat) : World := ((w.alloc (.cells #[.pointer (some ⟨d, 0, none⟩)] 26)).alloc (.cells #[.int .i64 i] 3)).alloc (.cells #[.slice B n c] 30)
theorem boxW_facts (w : World) (d : Nat) (i : Int) (B : Option Addr) (n c : Nat) : (boxW w d i B n c).heap[w.heap.size]? = some (.cells #[.pointer (some ⟨d, 0, none⟩)] 26 (0, 0)) ∧ (boxW w d i B n c).heap[w.heap.size + 1]? = some (.cells #[.int .i64 i] 3 (0, 0)) ∧ (boxW w d i B n c).heap[w.heap.size + 1 + 1]? = some (.cells #[.slice B n c] 30 (0, 0)) := by
  have e1 : (w.alloc (.cells #[.pointer (some ⟨d, 0, none⟩)] 26)).heap.size = w.heap.size + 1 := World.size_alloc _ _
  have e2 : ((w.alloc (.cells #[.pointer (some ⟨d, 0, none⟩)] 26)).alloc (.cells #[.int .i64 i] 3)).heap.size = w.heap.size + 1 + 1 := by rw [World.size_alloc, World.size_alloc]
  refine ⟨blk_alloc (blk_alloc (blk_new w _) _) _, ?_, ?_⟩
  · have := blk_alloc (blk_new (w.alloc (.cells #[.pointer (some ⟨d, 0, none⟩)] 26)) (.cells #[.int .i64 i] 3)) (.cells #[.slice B n c] 30)
    rw [e1] at this; exact this
  · have := blk_new ((w.alloc (.cells #[.pointer (some ⟨d, 0, none⟩)] 26)).alloc (.cells #[.int .i64 i] 3)) (.cells #[.slice B n c] 30)
    rw [e2] at this; exact this
theorem boxW_below (w : World) (d : Nat) (i : Int) (B : Option Addr) (n c : Nat) : Below w.heap.size w (boxW w d i B n c) := below_alloc (below_alloc (below_alloc (Below.refl _ _) _) _) _
set_option maxHeartbeats 4000000 in
set_option maxRecDepth 100000 in
theorem dk_Write (d : Nat) (i : Int) (B : Option Addr) (c : Nat) (b : List Int) (w : World) (base : Nat) (ok : Nat → Prop) (x : Dk) (h : DkAt w base ok d x) (hbs : base ≤ w.heap.size) (hC : (Kd.int .u8).C w B b.length b) (hB : ∀ ad, B = some ad → ¬ ok ad.block) :
    Calls Try.prog 15 #[.pointer (some ⟨d, 0, none⟩), .int .i64 i, .slice B b.length c] w fun e w' => e = .returned (.int .i64 (x.write i b).2) ∧ DkAt w' base ok d (x.write i b).1 ∧ Kept w w' ok ∧ Below base w w' := by
  obtain ⟨okt, hokt⟩ : ∃ okt : Nat → Prop, okt = (fun k => ok k ∧ base ≤ k ∧ k < w.heap.size) := ⟨_, rfl⟩
  have HOK := Aside0.mk hokt
  have h0 := h.bound
  rw [← hokt] at h0
  have HD0 := Aside0.mk h0
  have HBX := Aside0.mk (boxW_below w d i B b.length c)
  have HD3 := Aside0.mk (h0.below (below_drew HBX.out))
  obtain ⟨hx1, hx2, hx3⟩ := boxW_facts w d i B b.length c
  have hb1 := cell_c hx1
  have hb2 := cell_c hx2
  have hb3 := cell_c hx3
  have HC := Aside0.mk hC
  have HB := Aside0.mk hB
  have HBS := Aside0.mk hbs
  have HFI := Aside0.mk h.fits
  have hmf : ∀ (fn : Fn) (first cap : Array Value) (w : World), (Instr.makeFunc fn first cap).run Try.prog w = .ok (.func fn first cap) w := fun _ _ _ _ => rfl
  have HEND : Aside0 (∀ w', Below (boxW w d i B b.length c).heap.size (boxW w d i B b.length c) w' → DkAt w' base ok d x ∧ Kept w w' ok ∧ Below base w w') := ⟨fun w' hw => by
    have hww : Below w.heap.size w w' := below_step HBX.out hw
    exact ⟨h.below hww, Kept.of_below hww ok, hww.mono HBS.out⟩⟩
  clear h h0 hx1 hx2 hx3 hC hB hbs hokt
  unfold boxW at hb1 hb2 hb3 HBX HD3
  by_cases k1 : i < 0
  · have t1 : decide (i < 0) = true := decide_eq_true k1
    have HN : Aside0 (x.write i b = (x, 100)) := ⟨by unfold Dk.write; rw [if_neg (by omega)]⟩
    clear k1
    go_enter Try.func15, Try.ntmps15
    go_upto_region 1 with (fail)
    refine start_ (n := 13) (S := fun w' => w'.cell? ⟨w.heap.size + 1, 0, none⟩ = some (.int .i64 i) ∧ w'.cell? ⟨w.heap.size, 0, none⟩ = some (.pointer (some ⟨d, 0, none⟩)) ∧ w'.cell? ⟨w.heap.size + 1 + 1, 0, none⟩ = some (.slice B b.length c)) (ds := []) #[false, false, false, false, false, false, false, false, false, false, false, false, false] (by kernel_rfl) rfl rfl ⟨hb2, hb1, hb3⟩ (fun hHeld => ?_)
    refine take_ (i := 0) (N := some 7) (v := ?_) (a' := ?_) #[true, false, false, false, false, false, false, false, false, false, false, false, false] rfl rfl (by kernel_rfl) (fun _ _ _ h => h) (Or.inl ⟨by rfl, ?_⟩) hHeld ?_ ?_
    rotate_left
    · rintro w' ⟨s0, s1, s2⟩
      go_simp
      with_reducible rfl
    rotate_left
    · simp only [Act.put, List.setIfInBounds_toArray, List.set_cons_zero, List.set_cons_succ, i64_w, i32_w]
      rfl
    refine pure_ (i := 1) (N := some 8) (v := ?_) (a' := ?_) #[true, true, false, false, false, false, false, false, false, false, false, false, false] rfl rfl (by kernel_rfl) (fun _ _ _ h => h) (Or.inl ⟨by rfl, ?_⟩) ?_ ?_
    rotate_left
    · intro w'
      go_simp
      with_reducible rfl
    rotate_left
    · simp only [Act.put, List.setIfInBounds_toArray, List.set_cons_zero, List.set_cons_succ, i64_w, i32_w]
      rfl
    refine pure_ (i := 2) (N := some 9) (v := ?_) (a' := ?_) #[true, true, true, false, false, false, false, false, false, false, false, false, false] rfl rfl (by kernel_rfl) (fun _ _ _ h => h) (Or.inl ⟨by rfl, ?_⟩) ?_ ?_
    rotate_left
    · intro w'
      go_simp
      with_reducible rfl
    rotate_left
    · simp only [Act.put, List.setIfInBounds_toArray, List.set_cons_zero, List.set_cons_succ, i64_w, i32_w]
      rfl
    refine pure_ (i := 3) (N := some 10) (v := undef) (a' := ?_) #[true, true, true, true, false, false, false, false, false, false, false, false, false] rfl rfl (by kernel_rfl) (fun _ _ _ h => h) (Or.inr ⟨by rfl, rfl⟩) ?_ ?_
    rotate_left
    · simp only [Act.put, List.setIfInBounds_toArray, List.set_cons_zero, List.set_cons_succ, i64_w, i32_w]
      rfl
    refine pure_ (i := 4) (N := some 11) (v := undef) (a' := ?_) #[true, true, true, true, true, false, false, false, false, false, false, false, false] rfl rfl (by kernel_rfl) (fun _ _ _ h => h) (Or.inr ⟨by rfl, rfl⟩) ?_ ?_
    rotate_left
    · simp only [Act.put, List.setIfInBounds_toArray, List.set_cons_zero, List.set_cons_succ, i64_w, i32_w]
      rfl
    refine pure_ (i := 5) (N := some 12) (v := undef) (a' := ?_) #[true, true, true, true, true, true, false, false, false, false, false, false, false] rfl rfl (by kernel_rfl) (fun _ _ _ h => h) (Or.inr ⟨by rfl, rfl⟩) ?_ ?_
    rotate_left
    · simp only [Act.put, List.setIfInBounds_toArray, List.set_cons_zero, List.set_cons_succ, i64_w, i32_w]
      rfl
    refine pure_ (i := 6) (N := some 13) (v := undef) (a' := ?_) #[true, true, true, true, true, true, true, false, false, false, false, false, false] rfl rfl (by kernel_rfl) (fun _ _ _ h => h) (Or.inr ⟨by rfl, rfl⟩) ?_ ?_
    rotate_left
    · simp only [Act.put, List.setIfInBounds_toArray, List.set_cons_zero, List.set_cons_succ, i64_w, i32_w]
      rfl
    refine pure_ (i := 7) (N := some 14) (v := ?_) (a' := ?_) #[true, true, true, true, true, true, true, true, false, false, false, false, false] rfl rfl (by kernel_rfl) (fun _ _ _ h => h) (Or.inl ⟨by rfl, ?_⟩) ?_ ?_
    rotate_left
    · intro w'
      go_simp
      with_reducible rfl
    rotate_left
    · simp only [Act.put, List.setIfInBounds_toArray, List.set_cons_zero, List.set_cons_succ, i64_w, i32_w]
      rfl
    refine pure_ (i := 8) (N := some 15) (v := ?_) (a' := ?_) #[true, true, true, true, true, true, true, true, true, false, false, false, false] rfl rfl (by kernel_rfl) (fun _ _ _ h => h) (Or.inl ⟨by rfl, ?_⟩) ?_ ?_
    rotate_left
    · intro w'
      go_simp
      with_reducible rfl
    rotate_left
    · simp only [Act.put, List.setIfInBounds_toArray, List.set_cons_zero, List.set_cons_succ, i64_w, i32_w]
      rfl
    refine pure_ (i := 9) (N := some 16) (v := undef) (a' := ?_) #[true, true, true, true, true, true, true, true, true, true, false, false, false] rfl rfl (by kernel_rfl) (fun _ _ _ h => h) (Or.inr ⟨by rfl, rfl⟩) ?_ ?_
    rotate_left
    · simp only [Act.put, List.setIfInBounds_toArray, List.set_cons_zero, List.set_cons_succ, i64_w, i32_w]
      rfl
    refine pure_ (i := 10) (N := some 17) (v := undef) (a' := ?_) #[true, true, true, true, true, true, true, true, true, true, true, false, false] rfl rfl (by kernel_rfl) (fun _ _ _ h => h) (Or.inr ⟨by rfl, rfl⟩) ?_ ?_
    rotate_left
    · simp only [Act.put, List.setIfInBounds_toArray, List.set_cons_zero, List.set_cons_succ, i64_w, i32_w]
      rfl
    refine pure_ (i := 11) (N := some 18) (v := undef) (a' := ?_) #[true, true, true, true, true, true, true, true, true, true, true, true, false] rfl rfl (by kernel_rfl) (fun _ _ _ h => h) (Or.inr ⟨by rfl, rfl⟩) ?_ ?_
    rotate_left
    · simp only [Act.put, List.setIfInBounds_toArray, List.set_cons_zero, List.set_cons_succ, i64_w, i32_w]
      rfl
    refine pure_ (i := 12) (N := some 19) (v := ?_) (a' := ?_) #[true, true, true, true, true, true, true, true, true, true, true, true, true] rfl rfl (by kernel_rfl) (fun _ _ _ h => h) (Or.inl ⟨by rfl, ?_⟩) ?_ ?_
    rotate_left
    · intro w'
      go_simp
      with_reducible rfl
    rotate_left
    · simp only [Act.put, List.setIfInBounds_toArray, List.set_cons_zero, List.set_cons_succ, i64_w, i32_w]
      rfl
    refine done_ (by kernel_rfl) ?_

    go_wp2
    go_ret
    rw [HN.out]
    exact ⟨rfl, HEND.out _ (below_drew (Below.refl _ _))⟩
  · have t1 : decide (i < 0) = false := decide_eq_false k1
    by_cases k2 : i ≥ (x.E.length : Int) / 64
    · have t2 : decide (i ≥ (x.E.length : Int) / 64) = true := decide_eq_true k2
      have t3 : decide ((x.E.length : Int) / 64 ≤ i) = true := decide_eq_true k2
      have HN : Aside0 (x.write i b = (x, 100)) := ⟨by unfold Dk.write; rw [if_neg (by omega)]⟩
      clear k1 k2
      go_enter Try.func15, Try.ntmps15
      go_upto_region 1 with (fail)
      refine start_ (n := 13) (S := fun w' => w'.cell? ⟨w.heap.size + 1, 0, none⟩ = some (.int .i64 i) ∧ w'.cell? ⟨w.heap.size, 0, none⟩ = some (.pointer (some ⟨d, 0, none⟩)) ∧ w'.cell? ⟨w.heap.size + 1 + 1, 0, none⟩ = some (.slice B b.length c)) (ds := []) #[false, false, false, false, false, false, false, false, false, false, false, false, false] (by kernel_rfl) rfl rfl ⟨hb2, hb1, hb3⟩ (fun hHeld => ?_)
      refine take_ (i := 0) (N := some 7) (v := ?_) (a' := ?_) #[true, false, false, false, false, false, false, false, false, false, false, false, false] rfl rfl (by kernel_rfl) (fun _ _ _ h => h) (Or.inl ⟨by rfl, ?_⟩) hHeld ?_ ?_
      rotate_left
      · rintro w' ⟨s0, s1, s2⟩
        go_simp
        with_reducible rfl
      rotate_left
      · simp only [Act.put, List.setIfInBounds_toArray, List.set_cons_zero, List.set_cons_succ, i64_w, i32_w]
        rfl
      refine pure_ (i := 1) (N := some 8) (v := ?_) (a' := ?_) #[true, true, false, false, false, false, false, false, false, false, false, false, false] rfl rfl (by kernel_rfl) (fun _ _ _ h => h) (Or.inl ⟨by rfl, ?_⟩) ?_ ?_
      rotate_left
      · intro w'
        go_simp
        with_reducible rfl
      rotate_left
      · simp only [Act.put, List.setIfInBounds_toArray, List.set_cons_zero, List.set_cons_succ, i64_w, i32_w]
        rfl
      refine pure_ (i := 2) (N := some 9) (v := ?_) (a' := ?_) #[true, true, true, false, false, false, false, false, false, false, false, false, false] rfl rfl (by kernel_rfl) (fun _ _ _ h => h) (Or.inl ⟨by rfl, ?_⟩) ?_ ?_
      rotate_left
      · intro w'
        go_simp
        with_reducible rfl
      rotate_left
      · simp only [Act.put, List.setIfInBounds_toArray, List.set_cons_zero, List.set_cons_succ, i64_w, i32_w]
        rfl
      refine take_ (i := 3) (N := some 10) (v := ?_) (a' := ?_) #[true, true, true, true, false, false, false, false, false, false, false, false, false] rfl rfl (by kernel_rfl) (fun _ _ _ h => h) (Or.inl ⟨by rfl, ?_⟩) hHeld ?_ ?_
      rotate_left
      · rintro w' ⟨s0, s1, s2⟩
        go_simp
        with_reducible rfl
      rotate_left
      · simp only [Act.put, List.setIfInBounds_toArray, List.set_cons_zero, List.set_cons_succ, i64_w, i32_w]
        rfl
      refine take_ (i := 4) (N := some 11) (v := ?_) (a' := ?_) #[true, true, true, true, true, false, false, false, false, false, false, false, false] rfl rfl (by kernel_rfl) (fun _ _ _ h => h) (Or.inl ⟨by rfl, ?_⟩) hHeld ?_ ?_
      rotate_left
      · rintro w' ⟨s0, s1, s2⟩
        go_simp
        with_reducible rfl
      rotate_left
      · simp only [Act.put, List.setIfInBounds_toArray, List.set_cons_zero, List.set_cons_succ, i64_w, i32_w]
        rfl
      refine one_ (i := 5) (N := some 12) #[true, true, true, true, true, true, false, false, false, false, false, false, false] rfl rfl (by kernel_rfl) (by decide) (fun K hK => ?_)
      refine goes_ Try.func30 (by kernel_rfl) rfl #[.pointer (some ⟨d, 0, none⟩)] (by rfl) rfl rfl (by simp only [List.map_toArray, List.map_cons, List.map_nil]; rfl) ?_
      with_reducible refine (dk_count d _ base _ x HD3.out).mono ?_
      rintro e w5 ⟨rfl, rfl⟩
      refine ⟨_, rfl, ?_⟩
      refine hK.out _ _ ⟨hb2, hb1, hb3⟩ (fun hHeld => ?_)
      clear hK K
      refine norm_ (a' := ?_) ?_ ?_
      rotate_left
      · show Act.put _ (some 12) _ = _
        simp only [Act.put, List.setIfInBounds_toArray, List.set_cons_zero, List.set_cons_succ, i64_w, i32_w]
        rfl
      refine pure_ (i := 6) (N := some 13) (v := ?_) (a' := ?_) #[true, true, true, true, true, true, true, false, false, false, false, false, false] rfl rfl (by kernel_rfl) (fun _ _ _ h => h) (Or.inl ⟨by rfl, ?_⟩) ?_ ?_
      rotate_left
      · intro w'
        go_simp
        with_reducible rfl
      rotate_left
      · simp only [Act.put, List.setIfInBounds_toArray, List.set_cons_zero, List.set_cons_succ, i64_w, i32_w]
        rfl
      refine pure_ (i := 7) (N := some 14) (v := ?_) (a' := ?_) #[true, true, true, true, true, true, true, true, false, false, false, false, false] rfl rfl (by kernel_rfl) (fun _ _ _ h => h) (Or.inl ⟨by rfl, ?_⟩) ?_ ?_
      rotate_left
      · intro w'
        go_simp
        with_reducible rfl
      rotate_left
      · simp only [Act.put, List.setIfInBounds_toArray, List.set_cons_zero, List.set_cons_succ, i64_w, i32_w]
        rfl
      refine pure_ (i := 8) (N := some 15) (v := ?_) (a' := ?_) #[true, true, true, true, true, true, true, true, true, false, false, false, false] rfl rfl (by kernel_rfl) (fun _ _ _ h => h) (Or.inl ⟨by rfl, ?_⟩) ?_ ?_
      rotate_left
      · intro w'
        go_simp
        with_reducible rfl
      rotate_left
      · simp only [Act.put, List.setIfInBounds_toArray, List.set_cons_zero, List.set_cons_succ, i64_w, i32_w]
        rfl
      refine pure_ (i := 9) (N := some 16) (v := undef) (a' := ?_) #[true, true, true, true, true, true, true, true, true, true, false, false, false] rfl rfl (by kernel_rfl) (fun _ _ _ h => h) (Or.inr ⟨by rfl, rfl⟩) ?_ ?_
      rotate_left
      · simp only [Act.put, List.setIfInBounds_toArray, List.set_cons_zero, List.set_cons_succ, i64_w, i32_w]
        rfl
      refine pure_ (i := 10) (N := some 17) (v := undef) (a' := ?_) #[true, true, true, true, true, true, true, true, true, true, true, false, false] rfl rfl (by kernel_rfl) (fun _ _ _ h => h) (Or.inr ⟨by rfl, rfl⟩) ?_ ?_
      rotate_left
      · simp only [Act.put, List.setIfInBounds_toArray, List.set_cons_zero, List.set_cons_succ, i64_w, i32_w]
        rfl
      refine pure_ (i := 11) (N := some 18) (v := undef) (a' := ?_) #[true, true, true, true, true, true, true, true, true, true, true, true, false] rfl rfl (by kernel_rfl) (fun _ _ _ h => h) (Or.inr ⟨by rfl, rfl⟩) ?_ ?_
      rotate_left
      · simp only [Act.put, List.setIfInBounds_toArray, List.set_cons_zero, List.set_cons_succ, i64_w, i32_w]
        rfl
      refine pure_ (i := 12) (N := some 19) (v := ?_) (a' := ?_) #[true, true, true, true, true, true, true, true, true, true, true, true, true] rfl rfl (by kernel_rfl) (fun _ _ _ h => h) (Or.inl ⟨by rfl, ?_⟩) ?_ ?_
      rotate_left
      · intro w'
        go_simp
        with_reducible rfl
      rotate_left
      · simp only [Act.put, List.setIfInBounds_toArray, List.set_cons_zero, List.set_cons_succ, i64_w, i32_w]
        rfl
      refine done_ (by kernel_rfl) ?_

      go_wp2
      go_ret
      rw [HN.out]
      exact ⟨rfl, HEND.out _ (below_drew (Below.refl _ _))⟩
    · have t2 : decide (i ≥ (x.E.length : Int) / 64) = false := decide_eq_false k2
      have t3 : decide ((x.E.length : Int) / 64 ≤ i) = false := decide_eq_false k2
      by_cases k3 : b.length = 64
      · have t4 : ((b.length : Int) != 64) = false := by rw [k3]; rfl
        have t5 : (b.length != 64) = false := by rw [k3]; rfl
        obtain ⟨m, rfl⟩ : ∃ m : Nat, i = (m : Int) := ⟨i.toNat, by omega⟩
        have HI : Aside0 (m * 64 + 64 ≤ x.E.length) := ⟨by omega⟩
        have HL := Aside0.mk k3
        have HN : Aside0 (x.write (m : Int) b = (x.strokeW (splice x.E (m * 64) b), x.told)) := ⟨by unfold Dk.write Dk.strokeW Dk.told; rw [if_pos (by omega)]; split <;> rfl⟩
        clear k1 k2 k3
        go_enter Try.func15, Try.ntmps15
        go_upto_region 1 with (fail)
        refine start_ (n := 13) (S := fun w' => w'.cell? ⟨w.heap.size + 1, 0, none⟩ = some (.int .i64 (m : Int)) ∧ w'.cell? ⟨w.heap.size, 0, none⟩ = some (.pointer (some ⟨d, 0, none⟩)) ∧ w'.cell? ⟨w.heap.size + 1 + 1, 0, none⟩ = some (.slice B b.length c)) (ds := []) #[false, false, false, false, false, false, false, false, false, false, false, false, false] (by kernel_rfl) rfl rfl ⟨hb2, hb1, hb3⟩ (fun hHeld => ?_)
        refine take_ (i := 0) (N := some 7) (v := ?_) (a' := ?_) #[true, false, false, false, false, false, false, false, false, false, false, false, false] rfl rfl (by kernel_rfl) (fun _ _ _ h => h) (Or.inl ⟨by rfl, ?_⟩) hHeld ?_ ?_
        rotate_left
        · rintro w' ⟨s0, s1, s2⟩
          go_simp
          with_reducible rfl
        rotate_left
        · simp only [Act.put, List.setIfInBounds_toArray, List.set_cons_zero, List.set_cons_succ, i64_w, i32_w]
          rfl
        refine pure_ (i := 1) (N := some 8) (v := ?_) (a' := ?_) #[true, true, false, false, false, false, false, false, false, false, false, false, false] rfl rfl (by kernel_rfl) (fun _ _ _ h => h) (Or.inl ⟨by rfl, ?_⟩) ?_ ?_
        rotate_left
        · intro w'
          go_simp
          with_reducible rfl
        rotate_left
        · simp only [Act.put, List.setIfInBounds_toArray, List.set_cons_zero, List.set_cons_succ, i64_w, i32_w]
          rfl
        refine pure_ (i := 2) (N := some 9) (v := ?_) (a' := ?_) #[true, true, true, false, false, false, false, false, false, false, false, false, false] rfl rfl (by kernel_rfl) (fun _ _ _ h => h) (Or.inl ⟨by rfl, ?_⟩) ?_ ?_
        rotate_left
        · intro w'
          go_simp
          with_reducible rfl
        rotate_left
        · simp only [Act.put, List.setIfInBounds_toArray, List.set_cons_zero, List.set_cons_succ, i64_w, i32_w]
          rfl
        refine take_ (i := 3) (N := some 10) (v := ?_) (a' := ?_) #[true, true, true, true, false, false, false, false, false, false, false, false, false] rfl rfl (by kernel_rfl) (fun _ _ _ h => h) (Or.inl ⟨by rfl, ?_⟩) hHeld ?_ ?_
        rotate_left
        · rintro w' ⟨s0, s1, s2⟩
          go_simp
          with_reducible rfl
        rotate_left
        · simp only [Act.put, List.setIfInBounds_toArray, List.set_cons_zero, List.set_cons_succ, i64_w, i32_w]
          rfl
        refine take_ (i := 4) (N := some 11) (v := ?_) (a' := ?_) #[true, true, true, true, true, false, false, false, false, false, false, false, false] rfl rfl (by kernel_rfl) (fun _ _ _ h => h) (Or.inl ⟨by rfl, ?_⟩) hHeld ?_ ?_
        rotate_left
        · rintro w' ⟨s0, s1, s2⟩
          go_simp
          with_reducible rfl
        rotate_left
        · simp only [Act.put, List.setIfInBounds_toArray, List.set_cons_zero, List.set_cons_succ, i64_w, i32_w]
          rfl
        refine one_ (i := 5) (N := some 12) #[true, true, true, true, true, true, false, false, false, false, false, false, false] rfl rfl (by kernel_rfl) (by decide) (fun K hK => ?_)
        refine goes_ Try.func30 (by kernel_rfl) rfl #[.pointer (some ⟨d, 0, none⟩)] (by rfl) rfl rfl (by simp only [List.map_toArray, List.map_cons, List.map_nil]; rfl) ?_
        with_reducible refine (dk_count d _ base _ x HD3.out).mono ?_
        rintro e w5 ⟨rfl, rfl⟩
        refine ⟨_, rfl, ?_⟩
        refine hK.out _ _ ⟨hb2, hb1, hb3⟩ (fun hHeld => ?_)
        clear hK K
        refine norm_ (a' := ?_) ?_ ?_
        rotate_left
        · show Act.put _ (some 12) _ = _
          simp only [Act.put, List.setIfInBounds_toArray, List.set_cons_zero, List.set_cons_succ, i64_w, i32_w]
          rfl
        refine pure_ (i := 6) (N := some 13) (v := ?_) (a' := ?_) #[true, true, true, true, true, true, true, false, false, false, false, false, false] rfl rfl (by kernel_rfl) (fun _ _ _ h => h) (Or.inl ⟨by rfl, ?_⟩) ?_ ?_
        rotate_left
        · intro w'
          go_simp
          with_reducible rfl
        rotate_left
        · simp only [Act.put, List.setIfInBounds_toArray, List.set_cons_zero, List.set_cons_succ, i64_w, i32_w]
          rfl
        refine pure_ (i := 7) (N := some 14) (v := ?_) (a' := ?_) #[true, true, true, true, true, true, true, true, false, false, false, false, false] rfl rfl (by kernel_rfl) (fun _ _ _ h => h) (Or.inl ⟨by rfl, ?_⟩) ?_ ?_
        rotate_left
        · intro w'
          go_simp
          with_reducible rfl
        rotate_left
        · simp only [Act.put, List.setIfInBounds_toArray, List.set_cons_zero, List.set_cons_succ, i64_w, i32_w]
          rfl
        refine pure_ (i := 8) (N := some 15) (v := ?_) (a' := ?_) #[true, true, true, true, true, true, true, true, true, false, false, false, false] rfl rfl (by kernel_rfl) (fun _ _ _ h => h) (Or.inl ⟨by rfl, ?_⟩) ?_ ?_
        rotate_left
        · intro w'
          go_simp
          with_reducible rfl
        rotate_left
        · simp only [Act.put, List.setIfInBounds_toArray, List.set_cons_zero, List.set_cons_succ, i64_w, i32_w]
          rfl
        refine take_ (i := 9) (N := some 16) (v := ?_) (a' := ?_) #[true, true, true, true, true, true, true, true, true, true, false, false, false] rfl rfl (by kernel_rfl) (fun _ _ _ h => h) (Or.inl ⟨by rfl, ?_⟩) hHeld ?_ ?_
        rotate_left
        · rintro w' ⟨s0, s1, s2⟩
          go_simp
          with_reducible rfl
        rotate_left
        · simp only [Act.put, List.setIfInBounds_toArray, List.set_cons_zero, List.set_cons_succ, i64_w, i32_w]
          rfl
        refine pure_ (i := 10) (N := some 17) (v := ?_) (a' := ?_) #[true, true, true, true, true, true, true, true, true, true, true, false, false] rfl rfl (by kernel_rfl) (fun _ _ _ h => h) (Or.inl ⟨by rfl, ?_⟩) ?_ ?_
        rotate_left
        · intro w'
          go_simp
          with_reducible rfl
        rotate_left
        · simp only [Act.put, List.setIfInBounds_toArray, List.set_cons_zero, List.set_cons_succ, i64_w, i32_w]
          rfl
        refine pure_ (i := 11) (N := some 18) (v := ?_) (a' := ?_) #[true, true, true, true, true, true, true, true, true, true, true, true, false] rfl rfl (by kernel_rfl) (fun _ _ _ h => h) (Or.inl ⟨by rfl, ?_⟩) ?_ ?_
        rotate_left
        · intro w'
          go_simp
          with_reducible rfl
        rotate_left
        · simp only [Act.put, List.setIfInBounds_toArray, List.set_cons_zero, List.set_cons_succ, i64_w, i32_w]
          rfl
        refine pure_ (i := 12) (N := some 19) (v := ?_) (a' := ?_) #[true, true, true, true, true, true, true, true, true, true, true, true, true] rfl rfl (by kernel_rfl) (fun _ _ _ h => h) (Or.inl ⟨by rfl, ?_⟩) ?_ ?_
        rotate_left
        · intro w'
          go_simp
          with_reducible rfl
        rotate_left
        · simp only [Act.put, List.setIfInBounds_toArray, List.set_cons_zero, List.set_cons_succ, i64_w, i32_w]
          rfl
        refine done_ (by kernel_rfl) ?_

        have HP1 : Aside0 ((((w.alloc (.cells #[.pointer (some ⟨d, 0, none⟩)] 26)).alloc (.cells #[.int .i64 (m : Int)] 3)).alloc (.cells #[.slice B b.length c] 30)).drew.cell? ⟨w.heap.size, 0, none⟩ = some (.pointer (some ⟨d, 0, none⟩))) := ⟨hb1⟩
        have HP2 : Aside0 ((((w.alloc (.cells #[.pointer (some ⟨d, 0, none⟩)] 26)).alloc (.cells #[.int .i64 (m : Int)] 3)).alloc (.cells #[.slice B b.length c] 30)).drew.cell? ⟨w.heap.size + 1, 0, none⟩ = some (.int .i64 (m : Int))) := ⟨hb2⟩
        have HP3 : Aside0 ((((w.alloc (.cells #[.pointer (some ⟨d, 0, none⟩)] 26)).alloc (.cells #[.int .i64 (m : Int)] 3)).alloc (.cells #[.slice B b.length c] 30)).drew.cell? ⟨w.heap.size + 1 + 1, 0, none⟩ = some (.slice B 64 c)) := ⟨by rw [← HL.out]; exact hb3⟩
        have HC3 : Aside0 ((Kd.int .u8).C (((w.alloc (.cells #[.pointer (some ⟨d, 0, none⟩)] 26)).alloc (.cells #[.int .i64 (m : Int)] 3)).alloc (.cells #[.slice B b.length c] 30)).drew B 64 b) := ⟨by have := Kd.C_below HC.out (below_drew HBX.out); rw [HL.out] at this; rw [HL.out]; exact this⟩
        have HPO : Aside0 ((∀ ad, B = some ad → ¬ okt ad.block) ∧ ¬ okt w.heap.size ∧ ¬ okt (w.heap.size + 1) ∧ ¬ okt (w.heap.size + 1 + 1)) := ⟨by rw [HOK.out]; exact ⟨fun ad e hk => HB.out ad e hk.1, fun hk => by have := hk.2.2; omega, fun hk => by have := hk.2.2; omega, fun hk => by have := hk.2.2; omega⟩⟩
        go_wp2_with (first | (go_at_call 50; refine (dk_stroke_w d w.heap.size (w.heap.size + 1) (w.heap.size + 1 + 1) m c B b _ base okt x HD3.out HI.out HC3.out HP1.out HP2.out HP3.out HPO.out.1 HPO.out.2).mono ?_; rintro e w6 ⟨rfl, hd6, hk6, hb6⟩; have HD6 := Aside0.mk hd6; have HK6 := Aside0.mk hk6; have HB6 := Aside0.mk hb6; clear hd6 hk6 hb6))
        go_ret
        rw [HN.out]
        exact ⟨rfl, HD6.out.mono (fun k hk => by rw [HOK.out] at hk; exact hk.1), ((Kept.of_below (below_drew HBX.out) okt).then_ HK6.out (fun k hk => .inl hk)).mono (fun k hk => by rw [HOK.out] at hk; exact hk.1), ((below_drew HBX.out).mono HBS.out).trans HB6.out⟩
      · have t4 : ((b.length : Int) != 64) = true := by simp; omega
        have t5 : (b.length != 64) = true := by simpa using k3
        have HN : Aside0 (x.write i b = (x, 100)) := ⟨by unfold Dk.write; rw [if_neg (by omega)]⟩
        clear k1 k2 k3
        go_enter Try.func15, Try.ntmps15
        go_upto_region 1 with (fail)
        refine start_ (n := 13) (S := fun w' => w'.cell? ⟨w.heap.size + 1, 0, none⟩ = some (.int .i64 i) ∧ w'.cell? ⟨w.heap.size, 0, none⟩ = some (.pointer (some ⟨d, 0, none⟩)) ∧ w'.cell? ⟨w.heap.size + 1 + 1, 0, none⟩ = some (.slice B b.length c)) (ds := []) #[false, false, false, false, false, false, false, false, false, false, false, false, false] (by kernel_rfl) rfl rfl ⟨hb2, hb1, hb3⟩ (fun hHeld => ?_)
        refine take_ (i := 0) (N := some 7) (v := ?_) (a' := ?_) #[true, false, false, false, false, false, false, false, false, false, false, false, false] rfl rfl (by kernel_rfl) (fun _ _ _ h => h) (Or.inl ⟨by rfl, ?_⟩) hHeld ?_ ?_
        rotate_left
        · rintro w' ⟨s0, s1, s2⟩
          go_simp
          with_reducible rfl
        rotate_left
        · simp only [Act.put, List.setIfInBounds_toArray, List.set_cons_zero, List.set_cons_succ, i64_w, i32_w]
          rfl
        refine pure_ (i := 1) (N := some 8) (v := ?_) (a' := ?_) #[true, true, false, false, false, false, false, false, false, false, false, false, false] rfl rfl (by kernel_rfl) (fun _ _ _ h => h) (Or.inl ⟨by rfl, ?_⟩) ?_ ?_
        rotate_left
        · intro w'
          go_simp
          with_reducible rfl
        rotate_left
        · simp only [Act.put, List.setIfInBounds_toArray, List.set_cons_zero, List.set_cons_succ, i64_w, i32_w]
          rfl
        refine pure_ (i := 2) (N := some 9) (v := ?_) (a' := ?_) #[true, true, true, false, false, false, false, false, false, false, false, false, false] rfl rfl (by kernel_rfl) (fun _ _ _ h => h) (Or.inl ⟨by rfl, ?_⟩) ?_ ?_
        rotate_left
        · intro w'
          go_simp
          with_reducible rfl
        rotate_left
        · simp only [Act.put, List.setIfInBounds_toArray, List.set_cons_zero, List.set_cons_succ, i64_w, i32_w]
          rfl
        refine take_ (i := 3) (N := some 10) (v := ?_) (a' := ?_) #[true, true, true, true, false, false, false, false, false, false, false, false, false] rfl rfl (by kernel_rfl) (fun _ _ _ h => h) (Or.inl ⟨by rfl, ?_⟩) hHeld ?_ ?_
        rotate_left
        · rintro w' ⟨s0, s1, s2⟩
          go_simp
          with_reducible rfl
        rotate_left
        · simp only [Act.put, List.setIfInBounds_toArray, List.set_cons_zero, List.set_cons_succ, i64_w, i32_w]
          rfl
        refine take_ (i := 4) (N := some 11) (v := ?_) (a' := ?_) #[true, true, true, true, true, false, false, false, false, false, false, false, false] rfl rfl (by kernel_rfl) (fun _ _ _ h => h) (Or.inl ⟨by rfl, ?_⟩) hHeld ?_ ?_
        rotate_left
        · rintro w' ⟨s0, s1, s2⟩
          go_simp
          with_reducible rfl
        rotate_left
        · simp only [Act.put, List.setIfInBounds_toArray, List.set_cons_zero, List.set_cons_succ, i64_w, i32_w]
          rfl
        refine one_ (i := 5) (N := some 12) #[true, true, true, true, true, true, false, false, false, false, false, false, false] rfl rfl (by kernel_rfl) (by decide) (fun K hK => ?_)
        refine goes_ Try.func30 (by kernel_rfl) rfl #[.pointer (some ⟨d, 0, none⟩)] (by rfl) rfl rfl (by simp only [List.map_toArray, List.map_cons, List.map_nil]; rfl) ?_
        with_reducible refine (dk_count d _ base _ x HD3.out).mono ?_
        rintro e w5 ⟨rfl, rfl⟩
        refine ⟨_, rfl, ?_⟩
        refine hK.out _ _ ⟨hb2, hb1, hb3⟩ (fun hHeld => ?_)
        clear hK K
        refine norm_ (a' := ?_) ?_ ?_
        rotate_left
        · show Act.put _ (some 12) _ = _
          simp only [Act.put, List.setIfInBounds_toArray, List.set_cons_zero, List.set_cons_succ, i64_w, i32_w]
          rfl
        refine pure_ (i := 6) (N := some 13) (v := ?_) (a' := ?_) #[true, true, true, true, true, true, true, false, false, false, false, false, false] rfl rfl (by kernel_rfl) (fun _ _ _ h => h) (Or.inl ⟨by rfl, ?_⟩) ?_ ?_
        rotate_left
        · intro w'
          go_simp
          with_reducible rfl
        rotate_left
        · simp only [Act.put, List.setIfInBounds_toArray, List.set_cons_zero, List.set_cons_succ, i64_w, i32_w]
          rfl
        refine pure_ (i := 7) (N := some 14) (v := ?_) (a' := ?_) #[true, true, true, true, true, true, true, true, false, false, false, false, false] rfl rfl (by kernel_rfl) (fun _ _ _ h => h) (Or.inl ⟨by rfl, ?_⟩) ?_ ?_
        rotate_left
        · intro w'
          go_simp
          with_reducible rfl
        rotate_left
        · simp only [Act.put, List.setIfInBounds_toArray, List.set_cons_zero, List.set_cons_succ, i64_w, i32_w]
          rfl
        refine pure_ (i := 8) (N := some 15) (v := ?_) (a' := ?_) #[true, true, true, true, true, true, true, true, true, false, false, false, false] rfl rfl (by kernel_rfl) (fun _ _ _ h => h) (Or.inl ⟨by rfl, ?_⟩) ?_ ?_
        rotate_left
        · intro w'
          go_simp
          with_reducible rfl
        rotate_left
        · simp only [Act.put, List.setIfInBounds_toArray, List.set_cons_zero, List.set_cons_succ, i64_w, i32_w]
          rfl
        refine take_ (i := 9) (N := some 16) (v := ?_) (a' := ?_) #[true, true, true, true, true, true, true, true, true, true, false, false, false] rfl rfl (by kernel_rfl) (fun _ _ _ h => h) (Or.inl ⟨by rfl, ?_⟩) hHeld ?_ ?_
        rotate_left
        · rintro w' ⟨s0, s1, s2⟩
          go_simp
          with_reducible rfl
        rotate_left
        · simp only [Act.put, List.setIfInBounds_toArray, List.set_cons_zero, List.set_cons_succ, i64_w, i32_w]
          rfl
        refine pure_ (i := 10) (N := some 17) (v := ?_) (a' := ?_) #[true, true, true, true, true, true, true, true, true, true, true, false, false] rfl rfl (by kernel_rfl) (fun _ _ _ h => h) (Or.inl ⟨by rfl, ?_⟩) ?_ ?_
        rotate_left
        · intro w'
          go_simp
          with_reducible rfl
        rotate_left
        · simp only [Act.put, List.setIfInBounds_toArray, List.set_cons_zero, List.set_cons_succ, i64_w, i32_w]
          rfl
        refine pure_ (i := 11) (N := some 18) (v := ?_) (a' := ?_) #[true, true, true, true, true, true, true, true, true, true, true, true, false] rfl rfl (by kernel_rfl) (fun _ _ _ h => h) (Or.inl ⟨by rfl, ?_⟩) ?_ ?_
        rotate_left
        · intro w'
          go_simp
          with_reducible rfl
        rotate_left
        · simp only [Act.put, List.setIfInBounds_toArray, List.set_cons_zero, List.set_cons_succ, i64_w, i32_w]
          rfl
        refine pure_ (i := 12) (N := some 19) (v := ?_) (a' := ?_) #[true, true, true, true, true, true, true, true, true, true, true, true, true] rfl rfl (by kernel_rfl) (fun _ _ _ h => h) (Or.inl ⟨by rfl, ?_⟩) ?_ ?_
        rotate_left
        · intro w'
          go_simp
          with_reducible rfl
        rotate_left
        · simp only [Act.put, List.setIfInBounds_toArray, List.set_cons_zero, List.set_cons_succ, i64_w, i32_w]
          rfl
        refine done_ (by kernel_rfl) ?_

        go_wp2
        go_ret
        rw [HN.out]
        exact ⟨rfl, HEND.out _ (below_drew (Below.refl _ _))⟩

end Go.Proofs.Ytpkhpfgojhojaaa.PLg

namespace Go.Proofs.Ytpkhpfgojhojaaa.PLg
open Go.RowKit Go.Proofs.YtpkhpfgojhojaaaW.PrintWords Go.Proofs.YtpkhpfgojhojaaaW.PrintLast Go.Proofs.YtpkhpfgojhojaaaW.PrintMore
attribute [local go_sem] max2_int min2_int max_two min_two max_three min_three max_four min_four
set_option linter.unusedVariables false
set_option linter.unusedSimpArgs false
-- IMPORT: Derived.Test.@N@WOwn
-- IMPORT: Derived.Test.@N@DCrash
-- IMPORT: Derived.Test.@N@DNew
-- IMPORT: Derived.Test.@N@DWrite
/-- A disk of an image that may be. -/
theorem dk_New_ok (A : Option Addr) (c m : Nat) (I : List Int) (T : Option Addr) (ct mt : Nat) (ts : List S45) (w : World) (hI : (Kd.int .u8).C w A m I) (hc : m ≤ c) (hT : Kd.C k45 w T mt ts) (hw : ∀ t ∈ ts, (Lit.int .i64 t.f0).wf = true) (hm : m % 64 = 0 ∧ 64 ≤ m ∧ m ≤ 1048576) (hg : ∀ t ∈ ts, 1 ≤ t.f0) :
    Calls Try.prog 9 #[.slice A m c, .slice T mt ct] w fun e w' => ∃ d, e = .returned (.tuple #[.pointer (some ⟨d, 0, none⟩), .int .i64 0]) ∧ DkAt w' w.heap.size (fun _ => True) d (Dk.new I ts) ∧ Below w.heap.size w w' := by
  obtain rfl : I.length = m := hI.1
  obtain rfl : ts.length = mt := hT.1
  refine (dk_New_may A c I T ct ts w hI hc hT hw hm).mono ?_
  rintro e w' ⟨hb, ⟨_, d, he, hd⟩ | ⟨hn, _⟩⟩
  · exact ⟨d, he, hd, hb⟩
  · exact absurd ⟨hm.1, hm.2.1, hm.2.2, hg⟩ hn
theorem R_C {w : World} {e base n c : Nat} {k : IntKind} {ok : Nat → Prop} {A : Option Addr} {xs : List Int} (h : (Kd.int k).R e w base ok (.slice A n c) xs) : n ≤ c ∧ (Kd.int k).C w A n xs := by
  obtain ⟨h1, h2, h3⟩ := Kd.R_reads' h
  subst h1
  exact ⟨h2, h3⟩

end Go.Proofs.Ytpkhpfgojhojaaa.PLg

namespace Go.Proofs.Ytpkhpfgojhojaaa.PLg
open Go.RowKit Go.Proofs.YtpkhpfgojhojaaaW.PrintWords Go.Proofs.YtpkhpfgojhojaaaW.PrintLast Go.Proofs.YtpkhpfgojhojaaaW.PrintMore
attribute [local go_sem] max2_int min2_int max_two min_two max_three min_three max_four min_four
set_option linter.unusedVariables false
set_option linter.unusedSimpArgs false
-- IMPORT: Derived.Test.@N@WOwn
-- IMPORT: Derived.Test.@N@DCrash
-- IMPORT: Derived.Test.@N@DNew
-- IMPORT: Derived.Test.@N@DWords
/-! ### A log: what it is in memory. -/
structure Lg where
  y : Dk
  nr : Int
  rs : List (List Int)
  fresh : Bool
def areaOf (n : Nat) : Nat := (n / 64 - 2) / 2
def Lg.area (x : Lg) : Nat := areaOf x.y.E.length
/-- The struct in block g is the log x over the disk in block d; its blocks are ok. -/
def LgAt (w : World) (bd : Nat) (ok : Nat → Prop) (g d : Nat) (x : Lg) : Prop :=
  ∃ (okd okl : Nat → Prop) (v : Value), w.heap[g]? = some (.cells #[.pointer (some ⟨d, 0, none⟩), .int .u64 x.nr, v, .bool x.fresh] 94 (0, 0)) ∧ DkAt w bd okd d x.y ∧
    Kd.R (Kd.slice 5 (Kd.int .u8)) 30 w bd okl v x.rs ∧ (∀ k, okd k → ¬ okl k) ∧ ¬ okd g ∧ ¬ okl g ∧ ok g ∧ bd ≤ g ∧ (∀ k, okd k → ok k) ∧ (∀ k, okl k → ok k)
section
variable {w w' : World} {bd g d : Nat} {ok ok' S : Nat → Prop} {x : Lg}
theorem LgAt.mono (h : LgAt w bd ok g d x) (hok : ∀ k, ok k → ok' k) : LgAt w bd ok' g d x := by
  obtain ⟨okd, okl, v, h1, h2, h3, h4, h5, h6, h7, h8, h9, h10⟩ := h
  exact ⟨okd, okl, v, h1, h2, h3, h4, h5, h6, hok _ h7, h8, fun k hk => hok k (h9 k hk), fun k hk => hok k (h10 k hk)⟩
theorem LgAt.bound (h : LgAt w bd ok g d x) : LgAt w bd (fun k => ok k ∧ k < w.heap.size) g d x := by
  obtain ⟨okd, okl, v, h1, h2, h3, h4, h5, h6, h7, h8, h9, h10⟩ := h
  exact ⟨_, fun k => okl k ∧ k < w.heap.size, v, h1, h2.bound, Kd.R_mono (Kd.R_bound h3) (fun k hk => ⟨hk.1, hk.2.2.1⟩), fun k hk hl => h4 k hk.1 hl.1, fun hk => h5 hk.1, fun hk => h6 hk.1, ⟨h7, blk_lt h1⟩, h8, fun k hk => ⟨h9 k hk.1, hk.2.2⟩, fun k hk => ⟨h10 k hk.1, hk.2⟩⟩
theorem LgAt.kept (h : LgAt w bd ok g d x) (hk : Kept w w' S) (hne : ∀ k, ok k → ¬ S k) : LgAt w' bd ok g d x := by
  obtain ⟨okd, okl, v, h1, h2, h3, h4, h5, h6, h7, h8, h9, h10⟩ := h
  exact ⟨okd, okl, v, blk_kept h1 hk (hne _ h7), h2.kept hk (fun k hk => hne k (h9 k hk)), Kd.R_kept h3 hk (fun k hk => hne k (h10 k hk)), h4, h5, h6, h7, h8, h9, h10⟩
theorem LgAt.below (h : LgAt w bd ok g d x) (hb : Below w.heap.size w w') : LgAt w' bd ok g d x := h.kept (Kept.of_below hb (fun _ => False)) (fun _ _ h => h)
theorem LgAt.lt (h : LgAt w bd ok g d x) : g < w.heap.size := by
  obtain ⟨okd, okl, v, h1, _⟩ := h
  exact blk_lt h1
theorem LgAt.disk (h : LgAt w bd ok g d x) : ∃ okd, DkAt w bd okd d x.y := by
  obtain ⟨okd, okl, v, h1, h2, _⟩ := h
  exact ⟨okd, h2⟩
end
/-- The records, and what may take their place. -/
theorem LgAt.rows {w : World} {bd g d : Nat} {ok : Nat → Prop} {x : Lg} (h : LgAt w bd ok g d x) : ∃ (okl : Nat → Prop) (v : Value), w.heap[g]? = some (.cells #[.pointer (some ⟨d, 0, none⟩), .int .u64 x.nr, v, .bool x.fresh] 94 (0, 0)) ∧
    Kd.R (Kd.slice 5 (Kd.int .u8)) 30 w bd okl v x.rs ∧ (∀ k, okl k → k < w.heap.size ∧ k ≠ g) ∧ bd ≤ g ∧
    ∀ (w1 w2 : World) (nr : Int) (fr : Bool) (rs : List (List Int)) (v' : Value), Below w.heap.size w w1 → Kept w1 w2 (fun k => k = g) → w2.heap[g]? = some (.cells #[.pointer (some ⟨d, 0, none⟩), .int .u64 nr, v', .bool fr] 94 (0, 0)) →
      Kd.R (Kd.slice 5 (Kd.int .u8)) 30 w1 bd (fun k => okl k ∨ w.heap.size ≤ k) v' rs → LgAt w2 bd (fun k => ok k ∨ w.heap.size ≤ k) g d ⟨x.y, nr, rs, fr⟩ := by
  have hgl := h.lt
  obtain ⟨okd, okl, v0, h1, h2, h3, h4, h5, h6, h7, h8, h9, h10⟩ := h
  refine ⟨fun k => okl k ∧ k < w.heap.size, v0, h1, Kd.R_mono (Kd.R_bound h3) (fun k hk => ⟨hk.1, hk.2.2.1⟩), fun k hk => ⟨hk.2, fun e => h6 (e ▸ hk.1)⟩, h8, fun w1 w2 nr fr rs v' hb hk hg hR => ?_⟩
  refine ⟨_, fun k => (okl k ∧ k < w.heap.size) ∨ w.heap.size ≤ k, v', hg, (h2.bound.below hb).kept hk (fun k hk he => h5 (he ▸ hk.1)), Kd.R_kept hR hk (fun k hk he => hk.elim (fun q => h6 (he ▸ q.1)) (fun q => by omega)), fun k hk hl => hl.elim (fun q => h4 k hk.1 q.1) (fun q => by have := hk.2.2; omega), fun hk => h5 hk.1, fun q => q.elim (fun q => h6 q.1) (fun q => by omega), .inl h7, h8, fun k hk => .inl (h9 k hk.1), fun k hk => hk.elim (fun q => .inl (h10 k q.1)) .inr⟩
/-- The struct's own cells are written; its records are as they were. -/
theorem LgAt.put0 {w w2 : World} {bd g d : Nat} {ok : Nat → Prop} {x : Lg} {nr : Int} {fr : Bool} (h : LgAt w bd ok g d x) (hk : Kept w w2 (fun k => k = g)) (hg : ∀ v, w.heap[g]? = some (.cells #[.pointer (some ⟨d, 0, none⟩), .int .u64 x.nr, v, .bool x.fresh] 94 (0, 0)) → w2.heap[g]? = some (.cells #[.pointer (some ⟨d, 0, none⟩), .int .u64 nr, v, .bool fr] 94 (0, 0))) : LgAt w2 bd ok g d ⟨x.y, nr, x.rs, fr⟩ := by
  obtain ⟨okd, okl, v0, h1, h2, h3, h4, h5, h6, h7, h8, h9, h10⟩ := h
  exact ⟨okd, okl, v0, hg v0 h1, h2.kept hk (fun k hk he => h5 (he ▸ hk)), Kd.R_kept h3 hk (fun k hk he => h6 (he ▸ hk)), h4, h5, h6, h7, h8, h9, h10⟩
/-- The disk below is another one. -/
theorem LgAt.onDisk {w w' : World} {bd g d : Nat} {ok : Nat → Prop} {x : Lg} (h : LgAt w bd ok g d x) : ∃ okd, DkAt w bd okd d x.y ∧ (∀ k, okd k → ok k) ∧
    ∀ (w' : World) (y' : Dk), Kept w w' okd → DkAt w' bd (fun k => okd k ∨ w.heap.size ≤ k) d y' → LgAt w' bd (fun k => ok k ∨ w.heap.size ≤ k) g d { x with y := y' } := by
  have hgl := h.lt
  obtain ⟨okd, okl, v0, h1, h2, h3, h4, h5, h6, h7, h8, h9, h10⟩ := h
  refine ⟨okd, h2, h9, fun w' y' hk hd => ?_⟩
  have hl := Kd.R_kept (Kd.R_mono (Kd.R_bound h3) (ok' := fun k => okl k ∧ k < w.heap.size) (fun k hk => ⟨hk.1, hk.2.2.1⟩)) hk (fun k hk ho => h4 k ho hk.1)
  exact ⟨_, _, v0, blk_kept h1 hk h5, hd, hl, fun k hk hl => hk.elim (fun q => h4 k q hl.1) (fun q => by have := hl.2; omega), fun q => q.elim h5 (fun q => by omega), fun q => h6 q.1, .inl h7, h8, fun k hk => hk.elim (fun q => .inl (h9 k q)) .inr, fun k hk => .inl (h10 k hk.1)⟩
theorem w64 (n : Int) (h : -9223372036854775808 ≤ n ∧ n ≤ 9223372036854775807) : wrap64 n = n := by unfold wrap64; omega
theorem area_div (n : Nat) (h : 64 ≤ n) : ((n : Int) / 64 - 2).tdiv 2 = (areaOf n : Int) := by
  unfold areaOf
  by_cases h2 : 128 ≤ n
  · rw [Int.tdiv_eq_ediv_of_nonneg (by omega)]
    omega
  · have e : (n : Int) / 64 - 2 = -1 := by omega
    have e2 : n / 64 = 1 := by omega
    rw [e, e2]
    rfl
set_option maxHeartbeats 2000000 in
set_option maxRecDepth 100000 in
theorem lg_area (g : Nat) (w : World) (bd : Nat) (ok : Nat → Prop) (d : Nat) (x : Lg) (h : LgAt w bd ok g d x) :
    Calls Try.prog 67 #[.pointer (some ⟨g, 0, none⟩)] w fun e w' => e = .returned (.int .i64 (x.area : Int)) ∧ w = w' := by
  obtain ⟨okd, okl, v, h1, h2, _⟩ := h
  have hc0 := (blk_cell h1 0).trans rfl
  have hf := h2.fits.2.2.2
  have hf1 := h2.fits.2.2.1
  have hls := Try.underlying94
  clear h1
  go_enter Try.func67, Try.ntmps67
  go_wp2_with fail
  refine (dk_count d _ _ _ _ h2).mono ?_
  rintro e' w' ⟨rfl, rfl⟩
  clear h2
  have hd := area_div x.y.E.length hf1
  have hA : areaOf x.y.E.length ≤ 8192 := by unfold areaOf; omega
  have hw : wrap64 (areaOf x.y.E.length : Int) = (areaOf x.y.E.length : Int) := w64 _ (by omega)
  go_wp2
  all_goals
    go_ret
    refine ⟨?_, rfl⟩
    show Ending.returned (.int .i64 _) = _
    unfold Lg.area
    congr 2
    try omega
set_option maxHeartbeats 2000000 in
set_option maxRecDepth 100000 in
theorem lg_from (g : Nat) (nr : Int) (hn : 0 ≤ nr) (w : World) (bd : Nat) (ok : Nat → Prop) (d : Nat) (x : Lg) (h : LgAt w bd ok g d x) :
    Calls Try.prog 68 #[.pointer (some ⟨g, 0, none⟩), .int .u64 nr] w fun e w' => e = .returned (.int .i64 (2 + (nr % 2) * (x.area : Int))) ∧ w = w' := by
  have hA : x.area ≤ 8192 := by
    obtain ⟨_, h2⟩ := h.disk
    have := h2.fits.2.2.2
    unfold Lg.area areaOf
    omega
  have H := Aside0.mk h
  have hm : nr % 2 = 0 ∨ nr % 2 = 1 := by omega
  clear h
  go_enter Try.func68, Try.ntmps68
  go_wp2_with fail
  refine (lg_area g _ _ _ _ _ H.out).mono ?_
  rintro e' w' ⟨rfl, rfl⟩
  go_wp2
  go_ret
  refine ⟨?_, rfl⟩
  show Ending.returned (.int .i64 (wrap64 (2 + wrap64 (nr % 2 * (x.area : Int))))) = _
  rcases hm with h | h <;> rw [h]
  · rw [Int.zero_mul, w64 0 (by omega), w64 (2 + 0) (by decide)]
  · rw [Int.one_mul, w64 (x.area : Int) (by omega), w64 (2 + (x.area : Int)) (by omega)]

end Go.Proofs.Ytpkhpfgojhojaaa.PLg

namespace Go.Proofs.Ytpkhpfgojhojaaa.PLg
open Go.RowKit Go.Proofs.YtpkhpfgojhojaaaW.PrintWords Go.Proofs.YtpkhpfgojhojaaaW.PrintLast Go.Proofs.YtpkhpfgojhojaaaW.PrintMore
attribute [local go_sem] max2_int min2_int max_two min_two max_three min_three max_four min_four   -- for this text's walks alone
set_option linter.unusedVariables false
set_option linter.unusedSimpArgs false

/-! ### log_put: function 72 -/
def log_put.l0 : Nat → List Int → Int → Int → Option (List Int)
  | 0, _, _, _ => none
  | k + 1, x0, x1, x5 => if x5 ≥ 0 then (if 0 ≤ (wrap64 (8 * x5)) then (if x0.length < 140737488355328 then (log_put.l0 k (x0 ++ [(shr .u64 x1 (wrap64 (8 * x5))) % 256]) x1 (wrap64 (x5 - 1))) else (none)) else (none)) else (some x0)
def log_put.f (k : Nat) (l0 : List Int) (a1 : Int) : Option (List Int) := log_put.l0 k l0 a1 7
theorem log_put.mono_l : ∀ k, (∀ y0 y1 y2, LeO (log_put.l0 k y0 y1 y2) (log_put.l0 (k + 1) y0 y1 y2))
  | 0 => fun _ _ _ r h => by simp [log_put.l0] at h
  | k + 1 => by
    have ih0 := log_put.mono_l k
    · intro y0 y1 y2
      unfold log_put.l0
      repeat' first
      | (with_reducible exact ih0 _ _ _)
      | (with_reducible exact LeO.refl _)
      | (with_reducible exact LeO.none _)
      | (with_reducible refine LeO.ite ?_ ?_)
      | (with_reducible refine LeO.bind ?_ (fun _ => ?_))
      | exact ih0 _ _ _
      | exact LeO.none _
      | refine LeO.ite ?_ ?_
      | refine LeO.bind ?_ (fun _ => ?_)
theorem log_put.mono : ∀ a0 a1 k, LeO (log_put.f k a0 a1) (log_put.f (k + 1) a0 a1) := by
  intro a0 a1 k
  have ih0 := log_put.mono_l k
  unfold log_put.f
  repeat' first
      | (with_reducible exact ih0 _ _ _)
      | (with_reducible exact LeO.refl _)
      | (with_reducible exact LeO.none _)
      | (with_reducible refine LeO.ite ?_ ?_)
      | (with_reducible refine LeO.bind ?_ (fun _ => ?_))
      | exact ih0 _ _ _
      | exact LeO.none _
      | refine LeO.ite ?_ ?_
      | refine LeO.bind ?_ (fun _ => ?_)
set_option maxHeartbeats 8000000 in
set_option maxRecDepth 100000 in
theorem log_put.calls (k : Nat) (P0_ : Nat → Prop) (u9000_ : Value) (l0 : List Int) (a1 : Int) (r : List Int) (w0 w : World) (hB : Below w0.heap.size w0 w) (ho0 : Kd.R (Kd.int .u8) 5 w w0.heap.size P0_ u9000_ l0) (h : log_put.f k l0 a1 = some r) :
    Calls Try.prog 72 #[u9000_, .int .u64 a1] w fun e w' => ∃ v0_ : Value, e = .returned (v0_) ∧ Kd.R (Kd.int .u8) 5 w' w0.heap.size (fun k_ => (P0_ k_ ∨ w.heap.size ≤ k_)) v0_ r ∧ Below w0.heap.size w0 w' ∧ Kept w w' (fun k_ => P0_ k_) := by
  have HO0 := Aside0.mk (show Kd.R (Kd.int .u8) 5 w w0.heap.size (fun k_ => (P0_ k_ ∨ w.heap.size ≤ k_)) u9000_ l0 from Kd.R_mono ho0 (fun k_ hk => (.inl hk)))
  have HK := Aside0.mk (Kept.refl w (fun k_ => P0_ k_))
  have HW0 := Aside0.mk hB.size
  have HB := Aside0.mk hB
  clear hB
  have H : (log_put.l0 k l0 a1 7) = some r := h
  clear h
  have H' := Aside0.mk H
  clear H
  go_enter Try.func72, Try.ntmps72
  go_wp2
  go_loopg [0, 5] k (fun kq v0 v5 w' => ∃ (x0_1 : List Int) (x5_1 : Int), v5 = .int .i64 x5_1 ∧ Aside0 (log_put.l0 kq x0_1 a1 x5_1 = some r) ∧ Aside0 (kq ≤ k) ∧ Aside0 (Kd.R (Kd.int .u8) 5 w' w0.heap.size (fun k_ => (P0_ k_ ∨ w.heap.size ≤ k_)) v0 x0_1) ∧ Aside0 (Kept w w' (fun k_ => P0_ k_)) ∧ Aside0 (Below w0.heap.size w0 w'))
  case atStart => exact ⟨(l0), (7), (by first | rfl | (simp; done) | (simp [*]; done)), H', ⟨Nat.le_refl _⟩, ⟨by (with_reducible repeat (first | apply Kd.R_alloc | apply Kd.R_drewN | apply Kd.R_drew)); exact HO0.out⟩, ⟨by repeat (first | (with_reducible first | exact HK.out | apply Kept.alloc | apply Kept.drewN | apply Kept.drew) | exact HK.out)⟩, ⟨by repeat (first | (with_reducible first | exact HB.out | apply below_alloc | apply pw_below_drewN | apply below_drew1) | exact HB.out)⟩⟩
  case round =>
    clear H'
    try clear p2
    obtain ⟨x0_1, x5_1, rfl, HA, HK1, HO_0, HK, HB⟩ := hrel
    cases gk with
    | zero => exact absurd HA.out (by simp [log_put.l0])
    | succ k1 =>
      have H := HA.out
      clear HA
      simp only [log_put.l0] at H
      by_cases c3 : x5_1 ≥ 0
      · rw [if_pos c3] at H
        have c3b0 : decide (0 ≤ x5_1) = true := decide_eq_true c3
        clear c3
        obtain ⟨ji4, hji4⟩ : ∃ j_ : Int, (wrap64 (8 * x5_1)) = j_ := ⟨_, rfl⟩
        replace H : (if 0 ≤ (ji4) then (if x0_1.length < 140737488355328 then (log_put.l0 k1 (x0_1 ++ [(shr .u64 a1 (ji4)) % 256]) a1 (wrap64 (x5_1 - 1))) else (none)) else (none)) = some r := by first | (rw [hji4] at H; exact H) | (simp only [hji4] at H ⊢; exact H)
        have hji4w : (IntKind.i64.wrap (8 * x5_1)) = ji4 := (i64_w _).trans hji4
        by_cases c5 : 0 ≤ (ji4)
        · rw [if_pos c5] at H
          have c5b0 := eq_true c5
          have c5b1 : decide (0 ≤ (ji4)) = true := decide_eq_true c5
          clear c5
          obtain ⟨ji6, hji6⟩ : ∃ j_ : Int, (shr .u64 a1 (ji4)) = j_ := ⟨_, rfl⟩
          replace H : (if x0_1.length < 140737488355328 then (log_put.l0 k1 (x0_1 ++ [(ji6) % 256]) a1 (wrap64 (x5_1 - 1))) else (none)) = some r := by first | (rw [hji6] at H; exact H) | (simp only [hji6] at H ⊢; exact H)
          have hji6_ : (a1 / 2 ^ min (ji4).toNat 64) = ji6 := hji6
          have hji6z : (ji4) ≤ 64 → (a1 / 2 ^ (ji4).toNat) = ji6 := shr_small hji6
          by_cases c7 : x0_1.length < 140737488355328
          · rw [if_pos c7] at H
            have LMc7 := Aside0.mk c7
            clear c7
            obtain ⟨y148, hy148⟩ : ∃ y_ : List Int, y_ = (x0_1 ++ [(ji6) % 256]) := ⟨_, rfl⟩
            replace H : (log_put.l0 k1 y148 a1 (wrap64 (x5_1 - 1))) = some r := by first | (rw [hy148]; with_reducible exact H) | (have H2_ := (Option.bind_some _ _).symm.trans H; rw [hy148]; with_reducible exact H2_) | (have H2_ := (Option.bind_some _ _).symm.trans H; with_reducible exact H2_) | with_reducible exact H | (rw [hy148]; exact H) | exact H
            have Ny148 := Aside0.mk hy148
            clear hy148
            have H' := Aside0.mk H
            clear H
            go_wp2_with (first | ((with_reducible refine gate_builtin (b := .append) (xs := #[.tmp 10, .tmp 16]) rfl ?_); at_builtin; refine Kd.R_append (Kd.int .u8) (w0 := w0) w0.heap.size rfl (.tmp 10) (.tmp 16) 30 5 (.int .u8 0) 1 rfl Try.underlying30 info5 rfl (by decide) (by omega) u0 x0_1 ((ji6) % 256) [.int .u8 ((ji6) % 256)] (fun k_ => (P0_ k_ ∨ w.heap.size ≤ k_)) (fun _ => False) rfl rfl ?aP (fun _ hk => hk.elim) ?aF ?aO ?aB ?aS ?aL ?_; (case aP => exact rfl); (case aB => exact (by repeat (first | (with_reducible first | exact HB.out | apply below_alloc | apply pw_below_drewN | apply below_drew1) | exact HB.out))); (case aF => exact (fun k_ hk => (.inr (Nat.le_trans (by first | exact HK.out.1 | exact (show Kept w _ (fun k_ => P0_ k_) from by repeat (first | (with_reducible first | exact HK.out | apply Kept.alloc | apply Kept.drewN | apply Kept.drew) | exact HK.out)).1) hk)))); (case aO => exact (by (with_reducible repeat (first | apply Kd.R_alloc | apply Kd.R_drewN | apply Kd.R_drew)); exact HO_0.out)); (case aS => exact (below_size (by repeat (first | (with_reducible first | exact HB.out | apply below_alloc | apply pw_below_drewN | apply below_drew1) | exact HB.out)))); (case aL => have := LMc7.out; omega); intro v149 w8 ho hb hg hat; rw [← Ny148.out] at ho; have n0_ := Aside0.mk (hb); have n1_ := Aside0.mk (Kept.of_grown (S := (fun k_ => P0_ k_)) hg (by repeat (first | (with_reducible first | exact HK.out | apply Kept.alloc | apply Kept.drewN | apply Kept.drew) | exact HK.out)) (fun k_ e_ => (HO_0.out.1 k_ e_))); have n2_ := Aside0.mk (ho); clear HB; clear HK; clear HO_0; have HB := n0_; have HK := n1_; have HO150 := n2_; clear n0_ n1_ n2_; clear ho hb hg hat))
            go_roundg k1
            case measure => have := HK1.out; omega
            case rel => exact ⟨(y148), (wrap64 (x5_1 - 1)), (by first | rfl | (simp; done) | (simp [*]; done)), H', ⟨by have := HK1.out; omega⟩, ⟨by (with_reducible repeat (first | apply Kd.R_alloc | apply Kd.R_drewN | apply Kd.R_drew)); exact HO150.out⟩, ⟨by repeat (first | (with_reducible first | exact HK.out | apply Kept.alloc | apply Kept.drewN | apply Kept.drew) | exact HK.out)⟩, ⟨by repeat (first | (with_reducible first | exact HB.out | apply below_alloc | apply pw_below_drewN | apply below_drew1) | exact HB.out)⟩⟩
          · rw [if_neg c7] at H
            exact absurd H (by simp)
        · rw [if_neg c5] at H
          exact absurd H (by simp)
      · rw [if_neg c3] at H
        have c3b0 : decide (0 ≤ x5_1) = false := decide_eq_false c3
        clear c3
        obtain rfl := Option.some.inj H
        go_wp2
        go_ret
        exact ⟨_, by first | rfl | (simp [errW_none, errW_some] <;> rfl) | (simp [*, errW_none, errW_some] <;> rfl), by (with_reducible repeat (first | apply Kd.R_alloc | apply Kd.R_drewN | apply Kd.R_drew)); exact HO_0.out, by repeat (first | (with_reducible first | exact HB.out | apply below_alloc | apply pw_below_drewN | apply below_drew1) | exact HB.out), by repeat (first | (with_reducible first | exact HK.out | apply Kept.alloc | apply Kept.drewN | apply Kept.drew) | exact HK.out)⟩

end Go.Proofs.Ytpkhpfgojhojaaa.PLg

namespace Go.Proofs.Ytpkhpfgojhojaaa.PLg
open Go.RowKit Go.Proofs.YtpkhpfgojhojaaaW.PrintWords Go.Proofs.YtpkhpfgojhojaaaW.PrintLast Go.Proofs.YtpkhpfgojhojaaaW.PrintMore
attribute [local go_sem] max2_int min2_int max_two min_two max_three min_three max_four min_four   -- for this text's walks alone
set_option linter.unusedVariables false
set_option linter.unusedSimpArgs false

/-! ### log_lay: function 70 -/
def log_lay.l0 : Nat → List Int → List (List Int) → Int → Int → Option (List Int)
  | 0, _, _, _, _ => none
  | k + 1, x2, x5, x6, x7 => if x7 < x6 then (if 0 ≤ x7 then (if x7 < (x5.length : Int) then ((log_put.f k x2 (IntKind.u64.wrap (((rd_L2 x5 x7).length : Int)))).bind fun t152 => (if t152.length + (rd_L2 x5 x7).length < 140737488355328 then (log_lay.l0 k (t152 ++ (rd_L2 x5 x7)) x5 x6 (wrap64 (x7 + 1))) else (none))) else (none)) else (none)) else (some x2)
def log_lay.f (k : Nat) (l0 : List (List Int)) : Option (List Int) := log_lay.l0 k ([] : List Int) l0 (l0.length : Int) 0
theorem log_lay.mono_l : ∀ k, (∀ y0 y1 y2 y3, LeO (log_lay.l0 k y0 y1 y2 y3) (log_lay.l0 (k + 1) y0 y1 y2 y3))
  | 0 => fun _ _ _ _ r h => by simp [log_lay.l0] at h
  | k + 1 => by
    have ih0 := log_lay.mono_l k
    · intro y0 y1 y2 y3
      unfold log_lay.l0
      repeat' first
      | (with_reducible exact ih0 _ _ _ _)
      | (with_reducible exact log_put.mono _ _ _)
      | (with_reducible exact LeO.refl _)
      | (with_reducible exact LeO.none _)
      | (with_reducible refine LeO.ite ?_ ?_)
      | (with_reducible refine LeO.bind ?_ (fun _ => ?_))
      | exact ih0 _ _ _ _
      | exact log_put.mono _ _ _
      | exact LeO.none _
      | refine LeO.ite ?_ ?_
      | refine LeO.bind ?_ (fun _ => ?_)
theorem log_lay.mono : ∀ a0 k, LeO (log_lay.f k a0) (log_lay.f (k + 1) a0) := by
  intro a0 k
  have ih0 := log_lay.mono_l k
  unfold log_lay.f
  repeat' first
      | (with_reducible exact ih0 _ _ _ _)
      | (with_reducible exact log_put.mono _ _ _)
      | (with_reducible exact LeO.refl _)
      | (with_reducible exact LeO.none _)
      | (with_reducible refine LeO.ite ?_ ?_)
      | (with_reducible refine LeO.bind ?_ (fun _ => ?_))
      | exact ih0 _ _ _ _
      | exact log_put.mono _ _ _
      | exact LeO.none _
      | refine LeO.ite ?_ ?_
      | refine LeO.bind ?_ (fun _ => ?_)
set_option maxHeartbeats 8000000 in
set_option maxRecDepth 100000 in
theorem log_lay.calls (k : Nat) (A0 : Option Addr) (c0 : Nat) (l0 : List (List Int)) (r : List Int) (w : World) (hr0 : Kd.C (Kd.slice 5 (Kd.int .u8)) w A0 l0.length l0) (hc0 : l0.length ≤ c0) (h : log_lay.f k l0 = some r) :
    Calls Try.prog 70 #[.slice A0 l0.length c0] w fun e w' => ∃ v0_ : Value, e = .returned (v0_) ∧ Kd.R (Kd.int .u8) 5 w' w.heap.size (fun _ => True) v0_ r ∧ Below w.heap.size w w' := by
  have HR0 := Aside0.mk hr0
  have HC0 := Aside0.mk hc0
  clear hr0 hc0
  have HB := Aside0.mk (Below.refl w.heap.size w)
  have H : (log_lay.l0 k ([] : List Int) l0 (l0.length : Int) 0) = some r := h
  clear h
  have H' := Aside0.mk H
  clear H
  go_enter Try.func70, Try.ntmps70
  go_wp2
  go_loopg [2, 7] k (fun kq v2 v7 w' => ∃ (x2_1 : List Int) (x7_1 : Int), v7 = .int .i64 x7_1 ∧ Aside0 (log_lay.l0 kq x2_1 l0 (l0.length : Int) x7_1 = some r) ∧ Aside0 (kq ≤ k) ∧ Aside0 (Kd.R (Kd.int .u8) 5 w' w.heap.size (fun _ => True) v2 x2_1) ∧ Aside0 (Below w.heap.size w w'))
  case atStart => exact ⟨(([] : List Int)), (0), (by first | rfl | (simp; done) | (simp [*]; done)), H', ⟨Nat.le_refl _⟩, ⟨by first | exact Kd.R_nil _ _ _ _ _ | exact Kd.N_nil _ _ _ _ _ | exact Kd.V_nil _ _ _ _ _ | exact Kd.Q_nil _ _ _ _ _ | exact Kd.S_nil _ _ _ _ _⟩, ⟨by repeat (first | (with_reducible first | exact HB.out | apply below_alloc | apply pw_below_drewN | apply below_drew1) | exact HB.out)⟩⟩
  case round =>
    clear H'
    obtain ⟨x2_1, x7_1, rfl, HA, HK1, HO_2, HB⟩ := hrel
    cases gk with
    | zero => exact absurd HA.out (by simp [log_lay.l0])
    | succ k1 =>
      have H := HA.out
      clear HA
      simp only [log_lay.l0] at H
      by_cases c2 : x7_1 < (l0.length : Int)
      · rw [if_pos c2] at H
        have c2b0 : decide (x7_1 < (l0.length : Int)) = true := decide_eq_true c2
        clear c2
        by_cases c3 : 0 ≤ x7_1
        · rw [if_pos c3] at H
          have c3b0 : decide (0 ≤ x7_1) = true := decide_eq_true c3
          clear c3
          by_cases c4 : x7_1 < (l0.length : Int)
          · rw [if_pos c4] at H
            have c4b0 : decide (x7_1 < (l0.length : Int)) = true := decide_eq_true c4
            clear c4
            replace H := Option.bind_eq_some_iff.mp H
            obtain ⟨t152, A50, H⟩ := H
            replace H : (if t152.length + (rd_L2 l0 x7_1).length < 140737488355328 then (log_lay.l0 k1 (t152 ++ (rd_L2 l0 x7_1)) l0 (l0.length : Int) (wrap64 (x7_1 + 1))) else (none)) = some r := H
            have A5 := Aside0.mk A50
            clear A50
            by_cases c6 : t152.length + (rd_L2 l0 x7_1).length < 140737488355328
            · rw [if_pos c6] at H
              have LMc6 := Aside0.mk c6
              clear c6
              obtain ⟨y155, hy155⟩ : ∃ y_ : List Int, y_ = (t152 ++ (rd_L2 l0 x7_1)) := ⟨_, rfl⟩
              replace H : (log_lay.l0 k1 y155 l0 (l0.length : Int) (wrap64 (x7_1 + 1))) = some r := by first | (rw [hy155]; with_reducible exact H) | (have H2_ := (Option.bind_some _ _).symm.trans H; rw [hy155]; with_reducible exact H2_) | (have H2_ := (Option.bind_some _ _).symm.trans H; with_reducible exact H2_) | with_reducible exact H | (rw [hy155]; exact H) | exact H
              have Ny155 := Aside0.mk hy155
              clear hy155
              have H' := Aside0.mk H
              clear H
              have p151 : 0 ≤ (x7_1 : Int) := of_decide_eq_true (by first | (with_reducible assumption) | assumption)
              have q151 : x7_1 < (l0.length : Int) := of_decide_eq_true (by first | (with_reducible assumption) | assumption)
              obtain ⟨ad151, A151_0, c151_0, e151, hx151_0, hl151_0, hi151_0⟩ := at_L2 HR0.out x7_1 p151 q151
              cases e151
              replace hx151_0 := (HB.out.cell (World.block_lt_of_cell? w _ hx151_0)).trans hx151_0
              have HR151_0 := Aside0.mk hi151_0
              have HC151_0 := Aside0.mk hl151_0
              clear hi151_0 hl151_0
              replace p151 := eq_true p151
              replace q151 := eq_true q151
              obtain ⟨Ao7, co7, eo7⟩ := Kd.R_slice HO_2.out
              subst eo7
              go_wp2_with (first | ((with_reducible refine gate_callee (f := 72) rfl ?_); refine goesL_ (some 15) rfl rfl Try.func72 (by kernel_rfl) rfl #[.slice Ao7 x2_1.length co7, .int .u64 (IntKind.u64.wrap (((rd_L2 l0 x7_1).length : Int)))] rfl (by (try simp only [List.map_toArray, List.map_cons, List.map_nil]); first | done | rfl | (simp only [List.length_drop, List.length_take]; rfl)) ?_; (with_reducible refine (log_put.calls k1 (fun k_ => some k_ = (.slice Ao7 x2_1.length co7 : Value).ownBlock) (.slice Ao7 x2_1.length co7) x2_1 (IntKind.u64.wrap (((rd_L2 l0 x7_1).length : Int))) t152 w _ ?side1 ?side2 A5.out).mono ?_); (case side1 => repeat (first | (with_reducible first | exact HB.out | apply below_alloc | apply pw_below_drewN | apply below_drew1) | exact HB.out)); (case side2 => exact Kd.R_tight rfl HO_2.out); rintro e w8 ⟨v153, rfl, ho0, hb, hkp⟩; refine ⟨_, rfl, ?_⟩; have n0_ := Aside0.mk (Kd.R_mono (ok' := fun k_ => True) ho0 (fun k_ hk_ => trivial)); have n1_ := Aside0.mk (hb); clear HB; clear HO_2; have HO154 := n0_; have HB := n1_; clear n0_ n1_; (try clear hb); (try clear hkp); (try clear ho0)) | ((with_reducible refine gate_builtin (b := .append) (xs := #[.tmp 15, .tmp 16]) rfl ?_); at_builtin; refine Kd.R_append_rows (Kd.int .u8) (w0 := w) w.heap.size rfl (.tmp 15) (.tmp 16) 30 5 (.int .u8 0) 1 rfl Try.underlying30 info5 rfl (by decide) (by omega) v153 t152 (rd_L2 l0 x7_1) _ _ _ (fun _ => True) (fun _ => False) rfl rfl ?aO ?aR (fun _ _ h => h) (fun _ h => h.elim) ?aF ?aB ?aS ?aL ?_; (case aR => repeat (first | exact (Kd.C_below HR151_0.out HB.out) | (with_reducible refine Kd.C_alloc ?_ _) | (with_reducible refine Kd.C_drewN ?_ _) | (with_reducible refine Kd.C_drew ?_))); (case aB => exact (by repeat (first | (with_reducible first | exact HB.out | apply below_alloc | apply pw_below_drewN | apply below_drew1) | exact HB.out))); (case aF => exact (fun _ _ => trivial)); (case aO => exact (by (with_reducible repeat (first | apply Kd.R_alloc | apply Kd.R_drewN | apply Kd.R_drew)); exact HO154.out)); (case aS => exact (below_size (by repeat (first | (with_reducible first | exact HB.out | apply below_alloc | apply pw_below_drewN | apply below_drew1) | exact HB.out)))); (case aL => have := LMc6.out; omega); intro v156 w9 ho hb hg hat; rw [← Ny155.out] at ho; have n0_ := Aside0.mk (hb); have n1_ := Aside0.mk (ho); clear HB; clear HO154; have HB := n0_; have HO157 := n1_; clear n0_ n1_; clear ho hb hg hat))
              go_roundg k1
              case measure => have := HK1.out; omega
              case rel => exact ⟨(y155), (wrap64 (x7_1 + 1)), (by first | rfl | (simp; done) | (simp [*]; done)), H', ⟨by have := HK1.out; omega⟩, ⟨by (with_reducible repeat (first | apply Kd.R_alloc | apply Kd.R_drewN | apply Kd.R_drew)); exact HO157.out⟩, ⟨by repeat (first | (with_reducible first | exact HB.out | apply below_alloc | apply pw_below_drewN | apply below_drew1) | exact HB.out)⟩⟩
            · rw [if_neg c6] at H
              exact absurd H (by simp)
          · rw [if_neg c4] at H
            exact absurd H (by simp)
        · rw [if_neg c3] at H
          exact absurd H (by simp)
      · rw [if_neg c2] at H
        have c2b0 : decide (x7_1 < (l0.length : Int)) = false := decide_eq_false c2
        clear c2
        obtain rfl := Option.some.inj H
        go_wp2
        go_ret
        exact ⟨_, by first | rfl | (simp [errW_none, errW_some] <;> rfl) | (simp [*, errW_none, errW_some] <;> rfl), by (with_reducible repeat (first | apply Kd.R_alloc | apply Kd.R_drewN | apply Kd.R_drew)); exact HO_2.out, by repeat (first | (with_reducible first | exact HB.out | apply below_alloc | apply pw_below_drewN | apply below_drew1) | exact HB.out)⟩

end Go.Proofs.Ytpkhpfgojhojaaa.PLg

namespace Go.Proofs.Ytpkhpfgojhojaaa.PLg
open Go.RowKit Go.Proofs.YtpkhpfgojhojaaaW.PrintWords Go.Proofs.YtpkhpfgojhojaaaW.PrintLast Go.Proofs.YtpkhpfgojhojaaaW.PrintMore
attribute [local go_sem] max2_int min2_int max_two min_two max_three min_three max_four min_four   -- for this text's walks alone
set_option linter.unusedVariables false
set_option linter.unusedSimpArgs false

-- NOT PRINTED: function 47 (log_Log_Records)

/-! ### log_word: function 65 -/
def log_word.l0 : Nat → Int → List Int → Int → Int → Option (Int)
  | 0, _, _, _, _ => none
  | k + 1, x2, x6, x7, x8 => if x8 < x7 then (if 0 ≤ x8 then (if x8 < (x6.length : Int) then (log_word.l0 k (Go.bits .or .u64 (IntKind.u64.wrap (x2 * 256)) (IntKind.u64.wrap (rd x6 x8))) x6 x7 (wrap64 (x8 + 1))) else (none)) else (none)) else (some x2)
def log_word.f (k : Nat) (l0 : List Int) : Option (Int) := if 8 ≤ (l0.length : Int) then (log_word.l0 k 0 (l0.take 8) ((l0.take 8).length : Int) 0) else (none)
theorem log_word.mono_l : ∀ k, (∀ y0 y1 y2 y3, LeO (log_word.l0 k y0 y1 y2 y3) (log_word.l0 (k + 1) y0 y1 y2 y3))
  | 0 => fun _ _ _ _ r h => by simp [log_word.l0] at h
  | k + 1 => by
    have ih0 := log_word.mono_l k
    · intro y0 y1 y2 y3
      unfold log_word.l0
      repeat' first
      | (with_reducible exact ih0 _ _ _ _)
      | (with_reducible exact LeO.refl _)
      | (with_reducible exact LeO.none _)
      | (with_reducible refine LeO.ite ?_ ?_)
      | (with_reducible refine LeO.bind ?_ (fun _ => ?_))
      | exact ih0 _ _ _ _
      | exact LeO.none _
      | refine LeO.ite ?_ ?_
      | refine LeO.bind ?_ (fun _ => ?_)
theorem log_word.mono : ∀ a0 k, LeO (log_word.f k a0) (log_word.f (k + 1) a0) := by
  intro a0 k
  have ih0 := log_word.mono_l k
  unfold log_word.f
  repeat' first
      | (with_reducible exact ih0 _ _ _ _)
      | (with_reducible exact LeO.refl _)
      | (with_reducible exact LeO.none _)
      | (with_reducible refine LeO.ite ?_ ?_)
      | (with_reducible refine LeO.bind ?_ (fun _ => ?_))
      | exact ih0 _ _ _ _
      | exact LeO.none _
      | refine LeO.ite ?_ ?_
      | refine LeO.bind ?_ (fun _ => ?_)
set_option maxHeartbeats 8000000 in
set_option maxRecDepth 100000 in
theorem log_word.calls (k : Nat) (A0 : Option Addr) (c0 : Nat) (l0 : List Int) (r : Int) (w : World) (hr0 : Kd.C (Kd.int .u8) w A0 l0.length l0) (hc0 : l0.length ≤ c0) (h : log_word.f k l0 = some r) :
    Calls Try.prog 65 #[.slice A0 l0.length c0] w fun e w' => e = .returned (.int .u64 r) ∧ Drawn0 w w' := by
  have HR0 := Aside0.mk hr0
  have HC0 := Aside0.mk hc0
  clear hr0 hc0
  have H : (if 8 ≤ (l0.length : Int) then (log_word.l0 k 0 (l0.take 8) ((l0.take 8).length : Int) 0) else (none)) = some r := h
  clear h
  by_cases c2 : 8 ≤ (l0.length : Int)
  · rw [if_pos c2] at H
    have c2b0 := eq_true c2
    have c2b1 : decide (8 ≤ (l0.length : Int)) = true := decide_eq_true c2
    clear c2
    have H' := Aside0.mk H
    clear H
    obtain ⟨i03, hi03, _, hsz3, _⟩ := info_parts info5
    obtain ⟨hcut3, hA3, hC3⟩ := print_take_of (P := Try.prog) (Value.int .u8) 0 30 5 .i64 Try.underlying30 hi03 hsz3 A0 c0 l0 8 (by omega) (of_decide_eq_true (by first | (with_reducible assumption) | assumption)) HC0.out
    have HR122 := Aside0.mk (Kd.C_of_reads (h1 := fun _ => rfl) (hA3 _ (Kd.reads_of_C HR0.out)))
    have HC122 := Aside0.mk hC3
    clear hA3 hC3 hi03 hsz3
    go_enter Try.func65, Try.ntmps65
    go_wp2
    go_loopg [2, 8] k (fun kq v2 v8 w' => ∃ (x2_1 : Int) (x8_1 : Int), v2 = .int .u64 x2_1 ∧ v8 = .int .i64 x8_1 ∧ Aside0 (log_word.l0 kq x2_1 (l0.take 8) ((l0.take 8).length : Int) x8_1 = some r) ∧ Aside0 (kq ≤ k) ∧ Drawn0 w w')
    case atStart => exact ⟨(0), (0), (by first | rfl | (simp; done) | (simp [*]; done)), (by first | rfl | (simp; done) | (simp [*]; done)), H', ⟨Nat.le_refl _⟩, by repeat (first | exact Drawn0.refl _ | apply Drawn0.step)⟩
    case round =>
      clear H'
      try clear c2
      try clear c2b0
      try clear c2b1
      try clear p2
      obtain ⟨x2_1, x8_1, rfl, rfl, HA, HK1, ⟨m1, rfl⟩⟩ := hrel
      cases gk with
      | zero => exact absurd HA.out (by simp [log_word.l0])
      | succ k1 =>
        have H := HA.out
        clear HA
        simp only [log_word.l0] at H
        by_cases c4 : x8_1 < ((l0.take 8).length : Int)
        · rw [if_pos c4] at H
          have c4b0 : decide (x8_1 < ((l0.take 8).length : Int)) = true := decide_eq_true c4
          have c4b0m : decide (x8_1 < ((min 8 l0.length : Nat) : Int)) = true := by rw [← List.length_take]; exact c4b0
          clear c4
          by_cases c5 : 0 ≤ x8_1
          · rw [if_pos c5] at H
            have c5b0 : decide (0 ≤ x8_1) = true := decide_eq_true c5
            clear c5
            by_cases c6 : x8_1 < ((l0.take 8).length : Int)
            · rw [if_pos c6] at H
              have c6b0 : decide (x8_1 < ((l0.take 8).length : Int)) = true := decide_eq_true c6
              have c6b0m : decide (x8_1 < ((min 8 l0.length : Nat) : Int)) = true := by rw [← List.length_take]; exact c6b0
              clear c6
              have H' := Aside0.mk H
              clear H
              have p123 : 0 ≤ (x8_1 : Int) := of_decide_eq_true (by first | (with_reducible assumption) | assumption)
              have q123 : x8_1 < ((l0.take 8).length : Int) := of_decide_eq_true (by first | (with_reducible assumption) | assumption)
              obtain ⟨ad123, e123, hx123_0⟩ := Kd.at_int HR122.out x8_1 p123 q123
              cases e123
              replace p123 := eq_true p123
              replace q123 := eq_true q123
              have q123m : (x8_1 < ((min 8 l0.length : Nat) : Int)) = True := by rw [← List.length_take]; exact q123
              go_wp2
              go_roundg k1
              case measure => have := HK1.out; omega
              case rel => exact ⟨(Go.bits .or .u64 (IntKind.u64.wrap (x2_1 * 256)) (IntKind.u64.wrap (rd (l0.take 8) x8_1))), (wrap64 (x8_1 + 1)), (by first | rfl | (simp; done) | (simp [*]; done)), (by first | rfl | (simp; done) | (simp [*]; done)), H', ⟨by have := HK1.out; omega⟩, by repeat (first | exact Drawn0.refl _ | apply Drawn0.step)⟩
            · rw [if_neg c6] at H
              exact absurd H (by simp)
          · rw [if_neg c5] at H
            exact absurd H (by simp)
        · rw [if_neg c4] at H
          have c4b0 : decide (x8_1 < ((l0.take 8).length : Int)) = false := decide_eq_false c4
          have c4b0m : decide (x8_1 < ((min 8 l0.length : Nat) : Int)) = false := by rw [← List.length_take]; exact c4b0
          clear c4
          obtain rfl := Option.some.inj H
          go_wp2
          go_ret
          exact ⟨by first | rfl | (simp; done) | (simp [*]; done), by repeat (first | exact Drawn0.refl _ | apply Drawn0.step)⟩
  · rw [if_neg c2] at H
    exact absurd H (by simp)

end Go.Proofs.Ytpkhpfgojhojaaa.PLg

namespace Go.Proofs.Ytpkhpfgojhojaaa.PLg
open Go.RowKit Go.Proofs.YtpkhpfgojhojaaaW.PrintWords Go.Proofs.YtpkhpfgojhojaaaW.PrintLast Go.Proofs.YtpkhpfgojhojaaaW.PrintMore
attribute [local go_sem] max2_int min2_int max_two min_two max_three min_three max_four min_four   -- for this text's walks alone
set_option linter.unusedVariables false
set_option linter.unusedSimpArgs false

/-! ### log_sum: function 66 -/
def log_sum.l0 : Nat → Int → Int → List Int → Int → Int → Option (Int)
  | 0, _, _, _, _, _ => none
  | k + 1, x3, x4, x7, x8, x9 => if x9 < x8 then (if 0 ≤ x9 then (if x9 < (x7.length : Int) then (log_sum.l0 k (IntKind.u64.wrap (x3 + (IntKind.u64.wrap ((IntKind.u64.wrap (rd x7 x9)) + 1)))) (IntKind.u64.wrap ((IntKind.u64.wrap (x4 * 31)) + (IntKind.u64.wrap (x3 + (IntKind.u64.wrap ((IntKind.u64.wrap (rd x7 x9)) + 1)))))) x7 x8 (wrap64 (x9 + 1))) else (none)) else (none)) else (some x4)
def log_sum.f (k : Nat) (l0 : List Int) : Option (Int) := log_sum.l0 k 1 0 l0 (l0.length : Int) 0
theorem log_sum.mono_l : ∀ k, (∀ y0 y1 y2 y3 y4, LeO (log_sum.l0 k y0 y1 y2 y3 y4) (log_sum.l0 (k + 1) y0 y1 y2 y3 y4))
  | 0 => fun _ _ _ _ _ r h => by simp [log_sum.l0] at h
  | k + 1 => by
    have ih0 := log_sum.mono_l k
    · intro y0 y1 y2 y3 y4
      unfold log_sum.l0
      repeat' first
      | (with_reducible exact ih0 _ _ _ _ _)
      | (with_reducible exact LeO.refl _)
      | (with_reducible exact LeO.none _)
      | (with_reducible refine LeO.ite ?_ ?_)
      | (with_reducible refine LeO.bind ?_ (fun _ => ?_))
      | exact ih0 _ _ _ _ _
      | exact LeO.none _
      | refine LeO.ite ?_ ?_
      | refine LeO.bind ?_ (fun _ => ?_)
theorem log_sum.mono : ∀ a0 k, LeO (log_sum.f k a0) (log_sum.f (k + 1) a0) := by
  intro a0 k
  have ih0 := log_sum.mono_l k
  unfold log_sum.f
  repeat' first
      | (with_reducible exact ih0 _ _ _ _ _)
      | (with_reducible exact LeO.refl _)
      | (with_reducible exact LeO.none _)
      | (with_reducible refine LeO.ite ?_ ?_)
      | (with_reducible refine LeO.bind ?_ (fun _ => ?_))
      | exact ih0 _ _ _ _ _
      | exact LeO.none _
      | refine LeO.ite ?_ ?_
      | refine LeO.bind ?_ (fun _ => ?_)
set_option maxHeartbeats 8000000 in
set_option maxRecDepth 100000 in
theorem log_sum.calls (k : Nat) (A0 : Option Addr) (c0 : Nat) (l0 : List Int) (r : Int) (w : World) (hr0 : Kd.C (Kd.int .u8) w A0 l0.length l0) (hc0 : l0.length ≤ c0) (h : log_sum.f k l0 = some r) :
    Calls Try.prog 66 #[.slice A0 l0.length c0] w fun e w' => e = .returned (.int .u64 r) ∧ Drawn0 w w' := by
  have HR0 := Aside0.mk hr0
  have HC0 := Aside0.mk hc0
  clear hr0 hc0
  have H : (log_sum.l0 k 1 0 l0 (l0.length : Int) 0) = some r := h
  clear h
  have H' := Aside0.mk H
  clear H
  go_enter Try.func66, Try.ntmps66
  go_wp2
  go_loopg [3, 4, 9] k (fun kq v3 v4 v9 w' => ∃ (x3_1 : Int) (x4_1 : Int) (x9_1 : Int), v3 = .int .u64 x3_1 ∧ v4 = .int .u64 x4_1 ∧ v9 = .int .i64 x9_1 ∧ Aside0 (log_sum.l0 kq x3_1 x4_1 l0 (l0.length : Int) x9_1 = some r) ∧ Aside0 (kq ≤ k) ∧ Drawn0 w w')
  case atStart => exact ⟨(1), (0), (0), (by first | rfl | (simp; done) | (simp [*]; done)), (by first | rfl | (simp; done) | (simp [*]; done)), (by first | rfl | (simp; done) | (simp [*]; done)), H', ⟨Nat.le_refl _⟩, by repeat (first | exact Drawn0.refl _ | apply Drawn0.step)⟩
  case round =>
    clear H'
    obtain ⟨x3_1, x4_1, x9_1, rfl, rfl, rfl, HA, HK1, ⟨m1, rfl⟩⟩ := hrel
    cases gk with
    | zero => exact absurd HA.out (by simp [log_sum.l0])
    | succ k1 =>
      have H := HA.out
      clear HA
      simp only [log_sum.l0] at H
      by_cases c2 : x9_1 < (l0.length : Int)
      · rw [if_pos c2] at H
        have c2b0 : decide (x9_1 < (l0.length : Int)) = true := decide_eq_true c2
        clear c2
        by_cases c3 : 0 ≤ x9_1
        · rw [if_pos c3] at H
          have c3b0 : decide (0 ≤ x9_1) = true := decide_eq_true c3
          clear c3
          by_cases c4 : x9_1 < (l0.length : Int)
          · rw [if_pos c4] at H
            have c4b0 : decide (x9_1 < (l0.length : Int)) = true := decide_eq_true c4
            clear c4
            have H' := Aside0.mk H
            clear H
            have p124 : 0 ≤ (x9_1 : Int) := of_decide_eq_true (by first | (with_reducible assumption) | assumption)
            have q124 : x9_1 < (l0.length : Int) := of_decide_eq_true (by first | (with_reducible assumption) | assumption)
            obtain ⟨ad124, e124, hx124_0⟩ := Kd.at_int HR0.out x9_1 p124 q124
            cases e124
            replace p124 := eq_true p124
            replace q124 := eq_true q124
            go_wp2
            go_roundg k1
            case measure => have := HK1.out; omega
            case rel => exact ⟨(IntKind.u64.wrap (x3_1 + (IntKind.u64.wrap ((IntKind.u64.wrap (rd l0 x9_1)) + 1)))), (IntKind.u64.wrap ((IntKind.u64.wrap (x4_1 * 31)) + (IntKind.u64.wrap (x3_1 + (IntKind.u64.wrap ((IntKind.u64.wrap (rd l0 x9_1)) + 1)))))), (wrap64 (x9_1 + 1)), (by first | rfl | (simp; done) | (simp [*]; done)), (by first | rfl | (simp; done) | (simp [*]; done)), (by first | rfl | (simp; done) | (simp [*]; done)), H', ⟨by have := HK1.out; omega⟩, by repeat (first | exact Drawn0.refl _ | apply Drawn0.step)⟩
          · rw [if_neg c4] at H
            exact absurd H (by simp)
        · rw [if_neg c3] at H
          exact absurd H (by simp)
      · rw [if_neg c2] at H
        have c2b0 : decide (x9_1 < (l0.length : Int)) = false := decide_eq_false c2
        clear c2
        obtain rfl := Option.some.inj H
        go_wp2
        go_ret
        exact ⟨by first | rfl | (simp; done) | (simp [*]; done), by repeat (first | exact Drawn0.refl _ | apply Drawn0.step)⟩

-- NOT PRINTED: function 67 (log_Log_area)

-- NOT PRINTED: function 57 (log_Log_asked)

-- NOT PRINTED: function 68 (log_Log_from)

end Go.Proofs.Ytpkhpfgojhojaaa.PLg
