/- Parts of one proof, merged by merge.py of this repo: walks over the given program and plain facts, used by the law of the file YtpkhpfgojhojaaaCDiskOff. -/
import Derived.Test.YtpkhpfgojhojaaaMDiskOff2
import Derived.Test.YtpkhpfgojhojaaaMDiskOff3
import Derived.Test.YtpkhpfgojhojaaaMDiskOff1
namespace Go.Proofs.Ytpkhpfgojhojaaa.PDk
open Go.RowKit Go.Proofs.YtpkhpfgojhojaaaW.PrintWords Go.Proofs.YtpkhpfgojhojaaaW.PrintLast Go.Proofs.YtpkhpfgojhojaaaW.PrintMore
attribute [local go_sem] max2_int min2_int max_two min_two max_three min_three max_four min_four
set_option linter.unusedVariables false
set_option linter.unusedSimpArgs false
-- FUNCTION: gangway/gangwaylaw11.DiskOff
-- IMPORT: Derived.Test.@N@WOwn
-- IMPORT: Derived.Test.@N@DWakes
def ox0 : Dk := Dk.new (List.replicate 256 0) [⟨3⟩]
def ox1 : Dk := (ox0.write 0 (secOf 1)).1
def ox2 : Dk := ox1.flush.1
def ox3 : Dk := (ox2.write 1 (secOf 2)).1
def offAt (m : Int) : Dk := { S := ox3.S, E := ox3.E, tr := ox3.tr, n := m, off := true }
theorem ox0_w : (ox0.write 0 (secOf 1)).2 = 0 := by kernel_rfl
theorem ox1_f : ox1.flush.2 = 0 := by kernel_rfl
theorem ox2_w : (ox2.write 1 (secOf 2)).2 = 103 := by kernel_rfl
theorem ox3_at : ox3 = offAt 3 := by kernel_rfl
theorem off_write (m : Int) : (offAt m).write 2 (secOf 9) = (offAt (wrap64 (m + 1)), 103) := by kernel_rfl
theorem off_writeN (m : Int) : (offAt m).write (-1) (secOf 9) = (offAt m, 100) := by kernel_rfl
theorem off_flush (m : Int) : (offAt m).flush = (offAt (wrap64 (m + 1)), 103) := by kernel_rfl
theorem off_read (m : Int) : (offAt m).read 0 = ([], 103) := by kernel_rfl
def crA : List Int := ox3.crash []
def crB : List Int := ox3.crash [1, 1, 1]
theorem off_crA (m : Int) : (offAt m).crash [] = crA := by kernel_rfl
theorem off_crB (m : Int) : (offAt m).crash [1, 1, 1] = crB := by kernel_rfl
theorem crA_len : crA.length = 256 := by kernel_rfl
theorem crB_len : crB.length = 256 := by kernel_rfl
theorem crA_0 : (crA.drop 0).take 64 = secOf 1 := by kernel_rfl
theorem crA_1 : (crA.drop 64).take 64 = List.replicate 64 0 := by kernel_rfl
theorem crB_1 : (crB.drop 64).take 64 = secOf 2 := by kernel_rfl
theorem crB_2 : (crB.drop 128).take 64 = List.replicate 64 0 := by kernel_rfl
theorem blk_low {w1 w2 : World} {bd g : Nat} {o : Obj} (h : w1.heap[g]? = some o) (hb : Below bd w1 w2) (hg : g < bd) : w2.heap[g]? = some o := (hb.block g hg).trans h
theorem nums_C {W : World} {g : Nat} {k : IntKind} {t : TypeId} {xs : List Int} (h : W.heap[g]? = some (.cells (nums k xs).toArray t (0, 0))) (hm : xs.length ≤ 9223372036854775807) : (Kd.int k).C W (some ⟨g, 0, none⟩) xs.length xs := (Kd.R_reads' (R_of_blk (base := 0) h (Nat.zero_le _) hm)).2.2
theorem trouble_C {W : World} {g : Nat} {q : Int} (h : W.heap[g]? = some (.cells #[.int .i64 q] 45 (0, 0))) : Kd.C k45 W (some ⟨g, 0, none⟩) 1 [⟨q⟩] := by
  refine ⟨rfl, by decide, fun _ => ⟨_, rfl, fun j p hj => ?_⟩⟩
  have hj0 : j = 0 := by
    have := (List.getElem?_eq_some_iff.1 hj).1
    simp at this; exact this
  subst hj0
  cases hj
  refine ⟨[.int .i64 q], rfl, rfl, fun i u hu => ?_⟩
  have hi0 : i = 0 := by
    have := (List.getElem?_eq_some_iff.1 hu).1
    simp at this; exact this
  subst hi0
  cases hu
  exact (blk_cell h 0).trans rfl
theorem eq_part {w13 W : World} {g c off n m c2 : Nat} {L s : List Int} {A2 : Option Addr} (hC : (Kd.int .u8).C w13 (some ⟨g, 0, none⟩) n L) (hn : n ≤ c) (ho : off + 64 ≤ n) (hs : (L.drop off).take 64 = s) (hC2 : (Kd.int .u8).C W A2 m s) (hm : m ≤ c2) (hb : Below w13.heap.size w13 W) {q : Nat} (hq : q = c - off) :
    Calls Try.prog 19 #[.slice (some ⟨g, off, none⟩) 64 q, .slice A2 m c2] W fun e w' => e = .returned (.bool true) ∧ Drawn0 W w' := by
  subst hq
  have h1 := Kd.C_below (C_sub hC ho) hb
  rw [hs] at h1
  have l1 : s.length = 64 := h1.1
  have l2 : s.length = m := hC2.1
  have := dk_eqB (some ⟨g, off, none⟩) (c - off) s A2 c2 s W (by rw [l1]; exact h1) (by rw [l1]; omega) (by rw [l2]; exact hC2) (by rw [l2]; exact hm) (by rw [l1]; decide)
  rw [decide_eq_true rfl] at this
  rw [l1] at this
  have e : m = 64 := by omega
  subst e
  exact this
set_option maxHeartbeats 16000000 in
set_option maxRecDepth 100000 in
theorem gangwaylaw11_DiskOff.walk (a0 : Int) (A1 A2 : Option Addr) (n1 n2 c1 c2 : Nat) (hn2 : n2 ≤ 9223372036854775807) (w : World) :
    Calls Try.prog 4 #[.agg #[.int .i64 a0, .slice A1 n1 c1, .slice A2 n2 c2]] w fun e w' => e = .returned (.bool true) ∧ Below w.heap.size w w' := by
  obtain ⟨z, hz, hmk, hR0⟩ := mk_zero 256 256 rfl (by decide)
  obtain ⟨z6, hz6, hmk6, hR6⟩ := mk_zero 64 64 rfl (by decide)
  have HR6 := Aside0.mk hR6
  have HZ6 := Aside0.mk hz6
  have HZ := Aside0.mk hz
  have hus := Try.underlying25
  have hut := Try.underlying45
  have HBX : Aside0 (Below w.heap.size w ((w.alloc (.cells #[.int .i64 a0, .slice A1 n1 c1, .slice A2 n2 c2] 25)).alloc (.cells (nums .u8 z).toArray 5))) := ⟨below_alloc (below_alloc (Below.refl _ _) _) _⟩
  have HRZ : Aside0 ((Kd.int .u8).C (((w.alloc (.cells #[.int .i64 a0, .slice A1 n1 c1, .slice A2 n2 c2] 25)).alloc (.cells (nums .u8 z).toArray 5)).alloc (.cells #[.int .i64 3] 45)) (some ⟨w.heap.size + 1, 0, none⟩) 256 z) := ⟨by
    have := Kd.C_alloc (R_C (hR0 (w.alloc (.cells #[.int .i64 a0, .slice A1 n1 c1, .slice A2 n2 c2] 25)))).2 (.cells #[.int .i64 3] 45)
    rw [World.size_alloc] at this
    exact this⟩
  have HRT : Aside0 (Kd.C k45 (((w.alloc (.cells #[.int .i64 a0, .slice A1 n1 c1, .slice A2 n2 c2] 25)).alloc (.cells (nums .u8 z).toArray 5)).alloc (.cells #[.int .i64 3] 45)) (some ⟨w.heap.size + 1 + 1, 0, none⟩) 1 [⟨3⟩]) := ⟨by
    have := trouble_C (blk_new ((w.alloc (.cells #[.int .i64 a0, .slice A1 n1 c1, .slice A2 n2 c2] 25)).alloc (.cells (nums .u8 z).toArray 5)) (.cells #[.int .i64 3] 45))
    rw [World.size_alloc, World.size_alloc] at this
    exact this⟩
  obtain ⟨bd, hbd⟩ : ∃ bd, bd = (((w.alloc (.cells #[.int .i64 a0, .slice A1 n1 c1, .slice A2 n2 c2] 25)).alloc (.cells (nums .u8 z).toArray 5)).alloc (.cells #[.int .i64 3] 45)).heap.size := ⟨_, rfl⟩
  have HBD := Aside0.mk hbd
  have HBS0 := Aside0.mk (blk_alloc (blk_alloc (blk_new w (.cells #[.int .i64 a0, .slice A1 n1 c1, .slice A2 n2 c2] 25)) (.cells (nums .u8 z).toArray 5)) (.cells #[.int .i64 3] 45))
  have HLT : Aside0 (w.heap.size < bd) := ⟨by rw [hbd, World.size_alloc, World.size_alloc, World.size_alloc]; omega⟩
  clear hz hR0 hbd hz6 hR6
  go_enter Try.func4, Try.ntmps4
  go_wp2_with fail
  refine (dk_New_ok (some ⟨w.heap.size + 1, 0, none⟩) 256 256 z (some ⟨w.heap.size + 1 + 1, 0, none⟩) 1 1 [⟨3⟩] _ HRZ.out (Nat.le_refl _) HRT.out (fun t h => by rw [List.mem_singleton.1 h]; rfl) (by decide) (fun t h => by rw [List.mem_singleton.1 h]; decide)).mono ?_
  rintro e' w1 ⟨d, rfl, hd, hb⟩
  rw [← HBD.out, HZ.out, show Dk.new (List.replicate 256 0) [⟨3⟩] = ox0 from rfl] at hd
  have HD0 := Aside0.mk hd
  have HDB0 : Aside0 (bd ≤ w1.heap.size) := ⟨by rw [HBD.out]; exact hb.size⟩
  have HBS1 := Aside0.mk (blk_below HBS0.out hb)
  have HB1 := Aside0.mk (below_step (below_alloc HBX.out _) hb)
  clear hd hb HBS0 HBX HRZ HRT
  go_wp2_with (first | (go_at_call 10; refine (dk_num _ _).mono ?_; rintro e' w' ⟨rfl, rfl⟩))
  refine (dk_sector 1 _).mono ?_
  rintro e' ws1 ⟨vs1, rfl, hR, hb⟩
  obtain ⟨As1, cs1, rfl, _, _⟩ := Kd.R_reads hR
  have HW1 := Aside0.mk (dk_wsec HD0.out HDB0.out hb hR)
  clear hR hb
  go_wp2_with fail
  refine (HW1.out 0).mono ?_
  rintro e' w2 ⟨rfl, hd, hk, hb⟩
  rw [ox0_w]
  have HD1 := Aside0.mk (show DkAt w2 bd _ d ox1 from hd)
  have HDB1 : Aside0 (bd ≤ w2.heap.size) := ⟨Nat.le_trans HDB0.out hk.1⟩
  have HBS2 := Aside0.mk (blk_low HBS1.out hb HLT.out)
  have HB2 := Aside0.mk (HB1.out.trans (hb.mono (Nat.le_of_lt HLT.out)))
  clear hd hk hb HW1 HBS1 HB1 HD0
  go_wp2_with (first | (go_at_call 10; refine (dk_num _ _).mono ?_; rintro e' w' ⟨rfl, rfl⟩))
  refine (dk_Flush d _ _ _ _ HD1.out HDB1.out).mono ?_
  rintro e' w3 ⟨rfl, hd, hk, hb⟩
  rw [ox1_f]
  have HD2 := Aside0.mk (show DkAt w3 bd _ d ox2 from hd.mono (fun _ _ => trivial))
  have HDB2 : Aside0 (bd ≤ w3.heap.size) := ⟨Nat.le_trans HDB1.out hk.1⟩
  have HBS3 := Aside0.mk (blk_low HBS2.out hb HLT.out)
  have HB3 := Aside0.mk (HB2.out.trans (hb.mono (Nat.le_of_lt HLT.out)))
  clear hd hk hb HBS2 HB2 HD1
  go_wp2_with (first | (go_at_call 10; refine (dk_num _ _).mono ?_; rintro e' w' ⟨rfl, rfl⟩))
  refine (dk_sector 2 _).mono ?_
  rintro e' ws2 ⟨vs2, rfl, hR, hb⟩
  obtain ⟨As2, cs2, rfl, _, _⟩ := Kd.R_reads hR
  have HW2 := Aside0.mk (dk_wsec HD2.out HDB2.out hb hR)
  clear hR hb
  go_wp2_with fail
  refine (HW2.out 1).mono ?_
  rintro e' w4 ⟨rfl, hd, hk, hb⟩
  rw [ox2_w]
  have HD3 := Aside0.mk (show DkAt w4 bd (fun _ => True) d (offAt 3) by rw [← ox3_at]; exact hd)
  have HDB3 : Aside0 (bd ≤ w4.heap.size) := ⟨Nat.le_trans HDB2.out hk.1⟩
  have HBS4 := Aside0.mk (blk_low HBS3.out hb HLT.out)
  have HB4 := Aside0.mk (HB3.out.trans (hb.mono (Nat.le_of_lt HLT.out)))
  clear hd hk hb HW2 HBS3 HB3 HD2
  go_wp2_with (first | (go_at_call 10; refine (dk_num _ _).mono ?_; rintro e' w' ⟨rfl, rfl⟩))
  go_loopw [5] (fun v5 w' => ∃ (n : Nat) (m : Int), n ≤ 40 ∧ n ≤ n2 ∧ v5 = .int .i64 n ∧ Aside0 (w'.heap[w.heap.size]? = some (.cells #[.int .i64 a0, .slice A1 n1 c1, .slice A2 n2 c2] 25 (0, 0))) ∧ Aside0 (DkAt w' bd (fun _ => True) d (offAt m)) ∧ Aside0 (bd ≤ w'.heap.size) ∧ Aside0 (Below w.heap.size w w')) (fun v5 _ => 40 - (intOf v5).toNat)
  case atStart => exact ⟨0, 3, Nat.zero_le _, Nat.zero_le _, rfl, HBS4, HD3, HDB3, HB4⟩
  case round =>
    clear HBS4 HD3 HDB3 HB4
    obtain ⟨n, m, h40, hn, rfl, HBS, HD, HDB, HB⟩ := hrel
    have hs2 := (blk_cell HBS.out 2).trans rfl
    by_cases hlt : n < n2
    · by_cases h4 : n < 40
      · have u1 := True.intro
        go_wp2_with (first | (go_at_call 10; refine (dk_num _ _).mono ?_; rintro e' w' ⟨rfl, rfl⟩))
        refine (dk_Read d 0 _ _ _ _ HD.out).mono ?_
        rintro e' w5 ⟨v, rfl, hR, hb⟩
        rw [off_read]
        have HD5 := Aside0.mk (HD.out.below hb)
        have HDB5 : Aside0 (bd ≤ w5.heap.size) := ⟨Nat.le_trans HDB.out hb.size⟩
        have HBS5 := Aside0.mk (blk_below HBS.out hb)
        have HB5 := Aside0.mk (below_step HB.out hb)
        clear hR hb hs2
        go_wp2_with (first | (go_at_call 10; refine (dk_num _ _).mono ?_; rintro e' w' ⟨rfl, rfl⟩))
        refine (dk_sector 9 _).mono ?_
        rintro e' ws3 ⟨vs3, rfl, hR, hb⟩
        obtain ⟨As3, cs3, rfl, _, _⟩ := Kd.R_reads hR
        have HW3 := Aside0.mk (dk_wsec HD5.out HDB5.out hb hR)
        clear hR hb
        go_wp2_with fail
        refine (HW3.out 2).mono ?_
        rintro e' w6 ⟨rfl, hd, hk, hb⟩
        rw [off_write] at hd
        rw [off_write]
        have HD6 := Aside0.mk hd
        have HDB6 : Aside0 (bd ≤ w6.heap.size) := ⟨Nat.le_trans HDB5.out hk.1⟩
        have HBS6 := Aside0.mk (blk_low HBS5.out hb HLT.out)
        have HB6 := Aside0.mk (HB5.out.trans (hb.mono (Nat.le_of_lt HLT.out)))
        clear hd hk hb HW3
        go_wp2_with (first | (go_at_call 10; refine (dk_num _ _).mono ?_; rintro e' w' ⟨rfl, rfl⟩))
        refine (dk_Flush d _ _ _ _ HD6.out HDB6.out).mono ?_
        rintro e' w7 ⟨rfl, hd, hk, hb⟩
        rw [off_flush] at hd
        rw [off_flush]
        have HD7 := Aside0.mk (hd.mono (ok' := fun _ => True) (fun _ _ => trivial))
        have HDB7 : Aside0 (bd ≤ w7.heap.size) := ⟨Nat.le_trans HDB6.out hk.1⟩
        have HBS7 := Aside0.mk (blk_low HBS6.out hb HLT.out)
        have HB7 := Aside0.mk (HB6.out.trans (hb.mono (Nat.le_of_lt HLT.out)))
        clear hd hk hb
        go_wp2_with (first | (go_at_call 10; refine (dk_num _ _).mono ?_; rintro e' w' ⟨rfl, rfl⟩))
        refine (dk_sector 9 _).mono ?_
        rintro e' ws4 ⟨vs4, rfl, hR, hb⟩
        obtain ⟨As4, cs4, rfl, _, _⟩ := Kd.R_reads hR
        have HW4 := Aside0.mk (dk_wsec HD7.out HDB7.out hb hR)
        clear hR hb
        go_wp2_with fail
        refine (HW4.out (-1)).mono ?_
        rintro e' w8 ⟨rfl, hd, hk, hb⟩
        rw [off_writeN] at hd
        rw [off_writeN]
        have HD8 := Aside0.mk hd
        have HDB8 : Aside0 (bd ≤ w8.heap.size) := ⟨Nat.le_trans HDB7.out hk.1⟩
        have HBS8 := Aside0.mk (blk_low HBS7.out hb HLT.out)
        have HB8 := Aside0.mk (HB7.out.trans (hb.mono (Nat.le_of_lt HLT.out)))
        clear hd hk hb HW4
        go_wp2_with (first | (go_at_call 10; refine (dk_num _ _).mono ?_; rintro e' w' ⟨rfl, rfl⟩))
        go_roundw
        case rel => exact ⟨n + 1, _, by omega, by omega, by go_num, HBS8, HD8, HDB8, HB8⟩
        case measure => simp [intOf]; omega
      · have hge : decide (n < 40) = false := decide_eq_false h4
        have hcap0 := True.intro
        go_wp2_with fail
        refine (dk_Crash d none 0 [] _ _ _ _ HD.out (Kd.C_nil _ _) (Nat.le_refl _)).mono ?_
        rintro e' w10 ⟨va, rfl, hR, hb⟩
        rw [off_crA] at hR
        obtain ⟨ga, ca, rfl, _⟩ := Kd.R_form hR (by rw [crA_len]; decide)
        rw [crA_len] at hR
        rw [crA_len]
        have HA := Aside0.mk (R_C hR)
        have HD10 := Aside0.mk (HD.out.below hb)
        have HB10 := Aside0.mk (below_step HB.out hb)
        clear hR hb
        go_wp2_with fail
        refine (dk_Crash d (some ⟨w10.heap.size, 0, none⟩) 3 [1, 1, 1] _ _ _ _ (HD10.out.below (below_alloc (Below.refl _ _) _)) (nums_C (xs := [1, 1, 1]) (blk_new w10 (.cells #[.int .i64 1, .int .i64 1, .int .i64 1] 3)) (by decide)) (Nat.le_refl _)).mono ?_
        rintro e' w12 ⟨vb, rfl, hR, hb⟩
        rw [off_crB] at hR
        obtain ⟨gb, cb, rfl, _⟩ := Kd.R_form hR (by rw [crB_len]; decide)
        rw [crB_len] at hR
        rw [crB_len]
        have HX := Aside0.mk (R_C hR)
        have HA12 : Aside0 (256 ≤ ca ∧ (Kd.int .u8).C w12 (some ⟨ga, 0, none⟩) 256 crA) := ⟨HA.out.1, Kd.C_below (Kd.C_alloc HA.out.2 _) hb⟩
        have HB12 := Aside0.mk (below_step (below_alloc HB10.out _) hb)
        have hca := HA.out.1
        have hcb := HX.out.1
        clear hR hb HA
        have hi1 : (64 : Int) ≤ (ca : Int) := by omega
        have hi2 : (128 : Int) ≤ (ca : Int) := by omega
        have hi3 : (64 : Int) ≤ (cb : Int) := by omega
        have hi4 : (128 : Int) ≤ (cb : Int) := by omega
        have hi5 : (192 : Int) ≤ (cb : Int) := by omega
        have hj1 : ¬ (ca = 64) := by omega
        have hj2 : ¬ (cb = 64) := by omega
        have hj3 : ¬ (cb = 128) := by omega
        have hj4 : ¬ (ca = 0) := by omega
        have hj5 : ¬ (cb = 0) := by omega
        go_upto_region 17 with (fail)
        have HA13 : Aside0 (256 ≤ ca ∧ (Kd.int .u8).C (w12.alloc (.cells (nums .u8 z6).toArray 5)) (some ⟨ga, 0, none⟩) 256 crA) := ⟨HA12.out.1, Kd.C_alloc HA12.out.2 _⟩
        have HX13 : Aside0 (256 ≤ cb ∧ (Kd.int .u8).C (w12.alloc (.cells (nums .u8 z6).toArray 5)) (some ⟨gb, 0, none⟩) 256 crB) := ⟨HX.out.1, Kd.C_alloc HX.out.2 _⟩
        have HZ13 : Aside0 ((Kd.int .u8).C (w12.alloc (.cells (nums .u8 z6).toArray 5)) (some ⟨w12.heap.size, 0, none⟩) 64 (List.replicate 64 0)) := ⟨by rw [← HZ6.out]; exact (R_C (HR6.out w12)).2⟩
        have HB20 : Aside0 (Below (w12.alloc (.cells (nums .u8 z6).toArray 5)).heap.size (w12.alloc (.cells (nums .u8 z6).toArray 5)) (w12.alloc (.cells (nums .u8 z6).toArray 5)).drew) := ⟨below_drew (Below.refl _ _)⟩
        refine start_ (n := 26) (S := fun w' => True) (ds := []) #[false, false, false, false, false, false, false, false, false, false, false, false, false, false, false, false, false, false, false, false, false, false, false, false, false, false] (by kernel_rfl) rfl rfl trivial (fun hHeld => ?_)
        refine pure_ (i := 0) (N := some 96) (v := ?_) (a' := ?_) #[true, false, false, false, false, false, false, false, false, false, false, false, false, false, false, false, false, false, false, false, false, false, false, false, false, false] rfl rfl (by kernel_rfl) (fun _ _ _ h => h) (Or.inl ⟨by rfl, ?_⟩) ?_ ?_
        rotate_left
        · intro w'
          go_simp
          with_reducible rfl
        rotate_left
        · simp only [Act.put, List.setIfInBounds_toArray, List.set_cons_zero, List.set_cons_succ, i64_w, i32_w]
          rfl
        refine pure_ (i := 1) (N := some 97) (v := ?_) (a' := ?_) #[true, true, false, false, false, false, false, false, false, false, false, false, false, false, false, false, false, false, false, false, false, false, false, false, false, false] rfl rfl (by kernel_rfl) (fun _ _ _ h => h) (Or.inl ⟨by rfl, ?_⟩) ?_ ?_
        rotate_left
        · intro w'
          go_simp
          with_reducible rfl
        rotate_left
        · simp only [Act.put, List.setIfInBounds_toArray, List.set_cons_zero, List.set_cons_succ, i64_w, i32_w]
          rfl
        refine one_ (i := 2) (N := some 98) #[true, true, true, false, false, false, false, false, false, false, false, false, false, false, false, false, false, false, false, false, false, false, false, false, false, false] rfl rfl (by kernel_rfl) (by decide) (fun K hK => ?_)
        refine goes_ Try.func16 (by kernel_rfl) rfl #[.int .i64 1] (by rfl) rfl rfl (by simp only [List.map_toArray, List.map_cons, List.map_nil]; rfl) ?_
        with_reducible refine (dk_sector 1 _).mono ?_
        rintro e w21 ⟨vs21, rfl, hR, hb⟩
        refine ⟨_, rfl, ?_⟩
        obtain ⟨As21, cs21, rfl, hcl, hcC⟩ := Kd.R_reads hR
        have HC21 := Aside0.mk hcC
        have HL21 := Aside0.mk hcl
        have HB21 := Aside0.mk (below_step HB20.out hb)
        clear hR hb hcl hcC
        refine hK.out _ _ trivial (fun hHeld => ?_)
        clear hK K
        refine norm_ (a' := ?_) ?_ ?_
        rotate_left
        · show Act.put _ (some 98) _ = _
          simp only [Act.put, List.setIfInBounds_toArray, List.set_cons_zero, List.set_cons_succ, i64_w, i32_w]
          rfl
        refine one_ (i := 3) (N := some 99) #[true, true, true, true, false, false, false, false, false, false, false, false, false, false, false, false, false, false, false, false, false, false, false, false, false, false] rfl rfl (by kernel_rfl) (by decide) (fun K hK => ?_)
        refine goes_ Try.func19 (by kernel_rfl) rfl #[.slice (some ⟨ga, 0, none⟩) 64 ca, .slice As21 (secOf 1).length cs21] (by rfl) rfl rfl (by simp only [List.map_toArray, List.map_cons, List.map_nil]; rfl) ?_
        with_reducible refine (eq_part (c := ca) (off := 0) HA13.out.2 HA13.out.1 (by decide) crA_0 HC21.out HL21.out HB21.out (Nat.sub_zero ca).symm).mono ?_
        rintro e w22 ⟨rfl, ⟨nd22, rfl⟩⟩
        refine ⟨_, rfl, ?_⟩
        have HB22 := Aside0.mk (pw_below_drewN HB21.out nd22)
        refine hK.out _ _ trivial (fun hHeld => ?_)
        clear hK K
        refine norm_ (a' := ?_) ?_ ?_
        rotate_left
        · show Act.put _ (some 99) _ = _
          simp only [Act.put, List.setIfInBounds_toArray, List.set_cons_zero, List.set_cons_succ, i64_w, i32_w]
          rfl
        refine pure_ (i := 4) (N := some 100) (v := ?_) (a' := ?_) #[true, true, true, true, true, false, false, false, false, false, false, false, false, false, false, false, false, false, false, false, false, false, false, false, false, false] rfl rfl (by kernel_rfl) (fun _ _ _ h => h) (Or.inl ⟨by rfl, ?_⟩) ?_ ?_
        rotate_left
        · intro w'
          go_simp
          with_reducible rfl
        rotate_left
        · simp only [Act.put, List.setIfInBounds_toArray, List.set_cons_zero, List.set_cons_succ, i64_w, i32_w]
          rfl
        refine pure_ (i := 5) (N := some 101) (v := ?_) (a' := ?_) #[true, true, true, true, true, true, false, false, false, false, false, false, false, false, false, false, false, false, false, false, false, false, false, false, false, false] rfl rfl (by kernel_rfl) (fun _ _ _ h => h) (Or.inl ⟨by rfl, ?_⟩) ?_ ?_
        rotate_left
        · intro w'
          go_simp
          with_reducible rfl
        rotate_left
        · simp only [Act.put, List.setIfInBounds_toArray, List.set_cons_zero, List.set_cons_succ, i64_w, i32_w]
          rfl
        refine pure_ (i := 6) (N := some 102) (v := ?_) (a' := ?_) #[true, true, true, true, true, true, true, false, false, false, false, false, false, false, false, false, false, false, false, false, false, false, false, false, false, false] rfl rfl (by kernel_rfl) (fun _ _ _ h => h) (Or.inl ⟨by rfl, ?_⟩) ?_ ?_
        rotate_left
        · intro w'
          go_simp
          with_reducible rfl
        rotate_left
        · simp only [Act.put, List.setIfInBounds_toArray, List.set_cons_zero, List.set_cons_succ, i64_w, i32_w]
          rfl
        refine pure_ (i := 7) (N := some 103) (v := ?_) (a' := ?_) #[true, true, true, true, true, true, true, true, false, false, false, false, false, false, false, false, false, false, false, false, false, false, false, false, false, false] rfl rfl (by kernel_rfl) (fun _ _ _ h => h) (Or.inl ⟨by rfl, ?_⟩) ?_ ?_
        rotate_left
        · intro w'
          go_simp
          with_reducible rfl
        rotate_left
        · simp only [Act.put, List.setIfInBounds_toArray, List.set_cons_zero, List.set_cons_succ, i64_w, i32_w]
          rfl
        refine one_ (i := 8) (N := some 104) #[true, true, true, true, true, true, true, true, true, false, false, false, false, false, false, false, false, false, false, false, false, false, false, false, false, false] rfl rfl (by kernel_rfl) (by decide) (fun K hK => ?_)
        refine goes_ Try.func19 (by kernel_rfl) rfl #[.slice (some ⟨ga, 64, none⟩) 64 (ca - 64), .slice (some ⟨w12.heap.size, 0, none⟩) 64 64] (by rfl) rfl rfl (by simp only [List.map_toArray, List.map_cons, List.map_nil]; rfl) ?_
        with_reducible refine (eq_part (c := ca) (off := 64) HA13.out.2 HA13.out.1 (by decide) crA_1 (Kd.C_below HZ13.out HB22.out) (Nat.le_refl _) HB22.out rfl).mono ?_
        rintro e w23 ⟨rfl, ⟨nd23, rfl⟩⟩
        refine ⟨_, rfl, ?_⟩
        have HB23 := Aside0.mk (pw_below_drewN HB22.out nd23)
        refine hK.out _ _ trivial (fun hHeld => ?_)
        clear hK K
        refine norm_ (a' := ?_) ?_ ?_
        rotate_left
        · show Act.put _ (some 104) _ = _
          simp only [Act.put, List.setIfInBounds_toArray, List.set_cons_zero, List.set_cons_succ, i64_w, i32_w]
          rfl
        refine pure_ (i := 9) (N := some 105) (v := ?_) (a' := ?_) #[true, true, true, true, true, true, true, true, true, true, false, false, false, false, false, false, false, false, false, false, false, false, false, false, false, false] rfl rfl (by kernel_rfl) (fun _ _ _ h => h) (Or.inl ⟨by rfl, ?_⟩) ?_ ?_
        rotate_left
        · intro w'
          go_simp
          with_reducible rfl
        rotate_left
        · simp only [Act.put, List.setIfInBounds_toArray, List.set_cons_zero, List.set_cons_succ, i64_w, i32_w]
          rfl
        refine pure_ (i := 10) (N := some 106) (v := ?_) (a' := ?_) #[true, true, true, true, true, true, true, true, true, true, true, false, false, false, false, false, false, false, false, false, false, false, false, false, false, false] rfl rfl (by kernel_rfl) (fun _ _ _ h => h) (Or.inl ⟨by rfl, ?_⟩) ?_ ?_
        rotate_left
        · intro w'
          go_simp
          with_reducible rfl
        rotate_left
        · simp only [Act.put, List.setIfInBounds_toArray, List.set_cons_zero, List.set_cons_succ, i64_w, i32_w]
          rfl
        refine pure_ (i := 11) (N := some 107) (v := ?_) (a' := ?_) #[true, true, true, true, true, true, true, true, true, true, true, true, false, false, false, false, false, false, false, false, false, false, false, false, false, false] rfl rfl (by kernel_rfl) (fun _ _ _ h => h) (Or.inl ⟨by rfl, ?_⟩) ?_ ?_
        rotate_left
        · intro w'
          go_simp
          with_reducible rfl
        rotate_left
        · simp only [Act.put, List.setIfInBounds_toArray, List.set_cons_zero, List.set_cons_succ, i64_w, i32_w]
          rfl
        refine pure_ (i := 12) (N := some 108) (v := ?_) (a' := ?_) #[true, true, true, true, true, true, true, true, true, true, true, true, true, false, false, false, false, false, false, false, false, false, false, false, false, false] rfl rfl (by kernel_rfl) (fun _ _ _ h => h) (Or.inl ⟨by rfl, ?_⟩) ?_ ?_
        rotate_left
        · intro w'
          go_simp
          with_reducible rfl
        rotate_left
        · simp only [Act.put, List.setIfInBounds_toArray, List.set_cons_zero, List.set_cons_succ, i64_w, i32_w]
          rfl
        refine one_ (i := 13) (N := some 109) #[true, true, true, true, true, true, true, true, true, true, true, true, true, true, false, false, false, false, false, false, false, false, false, false, false, false] rfl rfl (by kernel_rfl) (by decide) (fun K hK => ?_)
        refine goes_ Try.func16 (by kernel_rfl) rfl #[.int .i64 2] (by rfl) rfl rfl (by simp only [List.map_toArray, List.map_cons, List.map_nil]; rfl) ?_
        with_reducible refine (dk_sector 2 _).mono ?_
        rintro e w24 ⟨vs24, rfl, hR, hb⟩
        refine ⟨_, rfl, ?_⟩
        obtain ⟨As24, cs24, rfl, hcl, hcC⟩ := Kd.R_reads hR
        have HC24 := Aside0.mk hcC
        have HL24 := Aside0.mk hcl
        have HB24 := Aside0.mk (below_step HB23.out hb)
        clear hR hb hcl hcC
        refine hK.out _ _ trivial (fun hHeld => ?_)
        clear hK K
        refine norm_ (a' := ?_) ?_ ?_
        rotate_left
        · show Act.put _ (some 109) _ = _
          simp only [Act.put, List.setIfInBounds_toArray, List.set_cons_zero, List.set_cons_succ, i64_w, i32_w]
          rfl
        refine one_ (i := 14) (N := some 110) #[true, true, true, true, true, true, true, true, true, true, true, true, true, true, true, false, false, false, false, false, false, false, false, false, false, false] rfl rfl (by kernel_rfl) (by decide) (fun K hK => ?_)
        refine goes_ Try.func19 (by kernel_rfl) rfl #[.slice (some ⟨gb, 64, none⟩) 64 (cb - 64), .slice As24 (secOf 2).length cs24] (by rfl) rfl rfl (by simp only [List.map_toArray, List.map_cons, List.map_nil]; rfl) ?_
        with_reducible refine (eq_part (c := cb) (off := 64) HX13.out.2 HX13.out.1 (by decide) crB_1 HC24.out HL24.out HB24.out rfl).mono ?_
        rintro e w25 ⟨rfl, ⟨nd25, rfl⟩⟩
        refine ⟨_, rfl, ?_⟩
        have HB25 := Aside0.mk (pw_below_drewN HB24.out nd25)
        refine hK.out _ _ trivial (fun hHeld => ?_)
        clear hK K
        refine norm_ (a' := ?_) ?_ ?_
        rotate_left
        · show Act.put _ (some 110) _ = _
          simp only [Act.put, List.setIfInBounds_toArray, List.set_cons_zero, List.set_cons_succ, i64_w, i32_w]
          rfl
        refine pure_ (i := 15) (N := some 111) (v := ?_) (a' := ?_) #[true, true, true, true, true, true, true, true, true, true, true, true, true, true, true, true, false, false, false, false, false, false, false, false, false, false] rfl rfl (by kernel_rfl) (fun _ _ _ h => h) (Or.inl ⟨by rfl, ?_⟩) ?_ ?_
        rotate_left
        · intro w'
          go_simp
          with_reducible rfl
        rotate_left
        · simp only [Act.put, List.setIfInBounds_toArray, List.set_cons_zero, List.set_cons_succ, i64_w, i32_w]
          rfl
        refine pure_ (i := 16) (N := some 112) (v := ?_) (a' := ?_) #[true, true, true, true, true, true, true, true, true, true, true, true, true, true, true, true, true, false, false, false, false, false, false, false, false, false] rfl rfl (by kernel_rfl) (fun _ _ _ h => h) (Or.inl ⟨by rfl, ?_⟩) ?_ ?_
        rotate_left
        · intro w'
          go_simp
          with_reducible rfl
        rotate_left
        · simp only [Act.put, List.setIfInBounds_toArray, List.set_cons_zero, List.set_cons_succ, i64_w, i32_w]
          rfl
        refine pure_ (i := 17) (N := some 113) (v := ?_) (a' := ?_) #[true, true, true, true, true, true, true, true, true, true, true, true, true, true, true, true, true, true, false, false, false, false, false, false, false, false] rfl rfl (by kernel_rfl) (fun _ _ _ h => h) (Or.inl ⟨by rfl, ?_⟩) ?_ ?_
        rotate_left
        · intro w'
          go_simp
          with_reducible rfl
        rotate_left
        · simp only [Act.put, List.setIfInBounds_toArray, List.set_cons_zero, List.set_cons_succ, i64_w, i32_w]
          rfl
        refine pure_ (i := 18) (N := some 114) (v := ?_) (a' := ?_) #[true, true, true, true, true, true, true, true, true, true, true, true, true, true, true, true, true, true, true, false, false, false, false, false, false, false] rfl rfl (by kernel_rfl) (fun _ _ _ h => h) (Or.inl ⟨by rfl, ?_⟩) ?_ ?_
        rotate_left
        · intro w'
          go_simp
          with_reducible rfl
        rotate_left
        · simp only [Act.put, List.setIfInBounds_toArray, List.set_cons_zero, List.set_cons_succ, i64_w, i32_w]
          rfl
        refine pure_ (i := 19) (N := some 115) (v := ?_) (a' := ?_) #[true, true, true, true, true, true, true, true, true, true, true, true, true, true, true, true, true, true, true, true, false, false, false, false, false, false] rfl rfl (by kernel_rfl) (fun _ _ _ h => h) (Or.inl ⟨by rfl, ?_⟩) ?_ ?_
        rotate_left
        · intro w'
          go_simp
          with_reducible rfl
        rotate_left
        · simp only [Act.put, List.setIfInBounds_toArray, List.set_cons_zero, List.set_cons_succ, i64_w, i32_w]
          rfl
        refine one_ (i := 20) (N := some 116) #[true, true, true, true, true, true, true, true, true, true, true, true, true, true, true, true, true, true, true, true, true, false, false, false, false, false] rfl rfl (by kernel_rfl) (by decide) (fun K hK => ?_)
        refine goes_ Try.func19 (by kernel_rfl) rfl #[.slice (some ⟨gb, 128, none⟩) 64 (cb - 128), .slice (some ⟨w12.heap.size, 0, none⟩) 64 64] (by rfl) rfl rfl (by simp only [List.map_toArray, List.map_cons, List.map_nil]; rfl) ?_
        with_reducible refine (eq_part (c := cb) (off := 128) HX13.out.2 HX13.out.1 (by decide) crB_2 (Kd.C_below HZ13.out HB25.out) (Nat.le_refl _) HB25.out rfl).mono ?_
        rintro e w26 ⟨rfl, ⟨nd26, rfl⟩⟩
        refine ⟨_, rfl, ?_⟩
        have HB26 := Aside0.mk (pw_below_drewN HB25.out nd26)
        refine hK.out _ _ trivial (fun hHeld => ?_)
        clear hK K
        refine norm_ (a' := ?_) ?_ ?_
        rotate_left
        · show Act.put _ (some 116) _ = _
          simp only [Act.put, List.setIfInBounds_toArray, List.set_cons_zero, List.set_cons_succ, i64_w, i32_w]
          rfl
        refine pure_ (i := 21) (N := some 117) (v := ?_) (a' := ?_) #[true, true, true, true, true, true, true, true, true, true, true, true, true, true, true, true, true, true, true, true, true, true, false, false, false, false] rfl rfl (by kernel_rfl) (fun _ _ _ h => h) (Or.inl ⟨by rfl, ?_⟩) ?_ ?_
        rotate_left
        · intro w'
          go_simp
          with_reducible rfl
        rotate_left
        · simp only [Act.put, List.setIfInBounds_toArray, List.set_cons_zero, List.set_cons_succ, i64_w, i32_w]
          rfl
        refine pure_ (i := 22) (N := some 118) (v := ?_) (a' := ?_) #[true, true, true, true, true, true, true, true, true, true, true, true, true, true, true, true, true, true, true, true, true, true, true, false, false, false] rfl rfl (by kernel_rfl) (fun _ _ _ h => h) (Or.inl ⟨by rfl, ?_⟩) ?_ ?_
        rotate_left
        · intro w'
          go_simp
          with_reducible rfl
        rotate_left
        · simp only [Act.put, List.setIfInBounds_toArray, List.set_cons_zero, List.set_cons_succ, i64_w, i32_w]
          rfl
        refine one_ (i := 23) (N := some 119) #[true, true, true, true, true, true, true, true, true, true, true, true, true, true, true, true, true, true, true, true, true, true, true, true, false, false] rfl rfl (by kernel_rfl) (by decide) (fun K hK => ?_)
        refine goes_ Try.func17 (by kernel_rfl) rfl #[] (by rfl) rfl rfl (by simp only [List.map_toArray, List.map_cons, List.map_nil]) ?_
        with_reducible refine (dk_wakes _).mono ?_
        rintro e w27 ⟨rfl, hb⟩
        refine ⟨_, rfl, ?_⟩
        have HB27 := Aside0.mk (below_step HB26.out hb)
        clear hb
        refine hK.out _ _ trivial (fun hHeld => ?_)
        clear hK K
        refine norm_ (a' := ?_) ?_ ?_
        rotate_left
        · show Act.put _ (some 119) _ = _
          simp only [Act.put, List.setIfInBounds_toArray, List.set_cons_zero, List.set_cons_succ, i64_w, i32_w]
          rfl
        refine pure_ (i := 24) (N := some 120) (v := ?_) (a' := ?_) #[true, true, true, true, true, true, true, true, true, true, true, true, true, true, true, true, true, true, true, true, true, true, true, true, true, false] rfl rfl (by kernel_rfl) (fun _ _ _ h => h) (Or.inl ⟨by rfl, ?_⟩) ?_ ?_
        rotate_left
        · intro w'
          go_simp
          with_reducible rfl
        rotate_left
        · simp only [Act.put, List.setIfInBounds_toArray, List.set_cons_zero, List.set_cons_succ, i64_w, i32_w]
          rfl
        refine pure_ (i := 25) (N := some 2) (v := ?_) (a' := ?_) #[true, true, true, true, true, true, true, true, true, true, true, true, true, true, true, true, true, true, true, true, true, true, true, true, true, true] rfl rfl (by kernel_rfl) (fun _ _ _ h => h) (Or.inl ⟨by rfl, ?_⟩) ?_ ?_
        rotate_left
        · intro w'
          go_simp
          with_reducible rfl
        rotate_left
        · simp only [Act.put, List.setIfInBounds_toArray, List.set_cons_zero, List.set_cons_succ, i64_w, i32_w]
          rfl
        refine done_ (by kernel_rfl) ?_
        go_wp2
        go_ret
        exact ⟨rfl, below_step (below_alloc HB12.out _) HB27.out⟩
    · have hge : decide (n < n2) = false := decide_eq_false hlt
      have hcap0 := True.intro
      go_wp2_with fail
      refine (dk_Crash d none 0 [] _ _ _ _ HD.out (Kd.C_nil _ _) (Nat.le_refl _)).mono ?_
      rintro e' w10 ⟨va, rfl, hR, hb⟩
      rw [off_crA] at hR
      obtain ⟨ga, ca, rfl, _⟩ := Kd.R_form hR (by rw [crA_len]; decide)
      rw [crA_len] at hR
      rw [crA_len]
      have HA := Aside0.mk (R_C hR)
      have HD10 := Aside0.mk (HD.out.below hb)
      have HB10 := Aside0.mk (below_step HB.out hb)
      clear hR hb
      go_wp2_with fail
      refine (dk_Crash d (some ⟨w10.heap.size, 0, none⟩) 3 [1, 1, 1] _ _ _ _ (HD10.out.below (below_alloc (Below.refl _ _) _)) (nums_C (xs := [1, 1, 1]) (blk_new w10 (.cells #[.int .i64 1, .int .i64 1, .int .i64 1] 3)) (by decide)) (Nat.le_refl _)).mono ?_
      rintro e' w12 ⟨vb, rfl, hR, hb⟩
      rw [off_crB] at hR
      obtain ⟨gb, cb, rfl, _⟩ := Kd.R_form hR (by rw [crB_len]; decide)
      rw [crB_len] at hR
      rw [crB_len]
      have HX := Aside0.mk (R_C hR)
      have HA12 : Aside0 (256 ≤ ca ∧ (Kd.int .u8).C w12 (some ⟨ga, 0, none⟩) 256 crA) := ⟨HA.out.1, Kd.C_below (Kd.C_alloc HA.out.2 _) hb⟩
      have HB12 := Aside0.mk (below_step (below_alloc HB10.out _) hb)
      have hca := HA.out.1
      have hcb := HX.out.1
      clear hR hb HA
      have hi1 : (64 : Int) ≤ (ca : Int) := by omega
      have hi2 : (128 : Int) ≤ (ca : Int) := by omega
      have hi3 : (64 : Int) ≤ (cb : Int) := by omega
      have hi4 : (128 : Int) ≤ (cb : Int) := by omega
      have hi5 : (192 : Int) ≤ (cb : Int) := by omega
      have hj1 : ¬ (ca = 64) := by omega
      have hj2 : ¬ (cb = 64) := by omega
      have hj3 : ¬ (cb = 128) := by omega
      have hj4 : ¬ (ca = 0) := by omega
      have hj5 : ¬ (cb = 0) := by omega
      go_upto_region 17 with (fail)
      have HA13 : Aside0 (256 ≤ ca ∧ (Kd.int .u8).C (w12.alloc (.cells (nums .u8 z6).toArray 5)) (some ⟨ga, 0, none⟩) 256 crA) := ⟨HA12.out.1, Kd.C_alloc HA12.out.2 _⟩
      have HX13 : Aside0 (256 ≤ cb ∧ (Kd.int .u8).C (w12.alloc (.cells (nums .u8 z6).toArray 5)) (some ⟨gb, 0, none⟩) 256 crB) := ⟨HX.out.1, Kd.C_alloc HX.out.2 _⟩
      have HZ13 : Aside0 ((Kd.int .u8).C (w12.alloc (.cells (nums .u8 z6).toArray 5)) (some ⟨w12.heap.size, 0, none⟩) 64 (List.replicate 64 0)) := ⟨by rw [← HZ6.out]; exact (R_C (HR6.out w12)).2⟩
      have HB20 : Aside0 (Below (w12.alloc (.cells (nums .u8 z6).toArray 5)).heap.size (w12.alloc (.cells (nums .u8 z6).toArray 5)) (w12.alloc (.cells (nums .u8 z6).toArray 5)).drew) := ⟨below_drew (Below.refl _ _)⟩
      refine start_ (n := 26) (S := fun w' => True) (ds := []) #[false, false, false, false, false, false, false, false, false, false, false, false, false, false, false, false, false, false, false, false, false, false, false, false, false, false] (by kernel_rfl) rfl rfl trivial (fun hHeld => ?_)
      refine pure_ (i := 0) (N := some 96) (v := ?_) (a' := ?_) #[true, false, false, false, false, false, false, false, false, false, false, false, false, false, false, false, false, false, false, false, false, false, false, false, false, false] rfl rfl (by kernel_rfl) (fun _ _ _ h => h) (Or.inl ⟨by rfl, ?_⟩) ?_ ?_
      rotate_left
      · intro w'
        go_simp
        with_reducible rfl
      rotate_left
      · simp only [Act.put, List.setIfInBounds_toArray, List.set_cons_zero, List.set_cons_succ, i64_w, i32_w]
        rfl
      refine pure_ (i := 1) (N := some 97) (v := ?_) (a' := ?_) #[true, true, false, false, false, false, false, false, false, false, false, false, false, false, false, false, false, false, false, false, false, false, false, false, false, false] rfl rfl (by kernel_rfl) (fun _ _ _ h => h) (Or.inl ⟨by rfl, ?_⟩) ?_ ?_
      rotate_left
      · intro w'
        go_simp
        with_reducible rfl
      rotate_left
      · simp only [Act.put, List.setIfInBounds_toArray, List.set_cons_zero, List.set_cons_succ, i64_w, i32_w]
        rfl
      refine one_ (i := 2) (N := some 98) #[true, true, true, false, false, false, false, false, false, false, false, false, false, false, false, false, false, false, false, false, false, false, false, false, false, false] rfl rfl (by kernel_rfl) (by decide) (fun K hK => ?_)
      refine goes_ Try.func16 (by kernel_rfl) rfl #[.int .i64 1] (by rfl) rfl rfl (by simp only [List.map_toArray, List.map_cons, List.map_nil]; rfl) ?_
      with_reducible refine (dk_sector 1 _).mono ?_
      rintro e w21 ⟨vs21, rfl, hR, hb⟩
      refine ⟨_, rfl, ?_⟩
      obtain ⟨As21, cs21, rfl, hcl, hcC⟩ := Kd.R_reads hR
      have HC21 := Aside0.mk hcC
      have HL21 := Aside0.mk hcl
      have HB21 := Aside0.mk (below_step HB20.out hb)
      clear hR hb hcl hcC
      refine hK.out _ _ trivial (fun hHeld => ?_)
      clear hK K
      refine norm_ (a' := ?_) ?_ ?_
      rotate_left
      · show Act.put _ (some 98) _ = _
        simp only [Act.put, List.setIfInBounds_toArray, List.set_cons_zero, List.set_cons_succ, i64_w, i32_w]
        rfl
      refine one_ (i := 3) (N := some 99) #[true, true, true, true, false, false, false, false, false, false, false, false, false, false, false, false, false, false, false, false, false, false, false, false, false, false] rfl rfl (by kernel_rfl) (by decide) (fun K hK => ?_)
      refine goes_ Try.func19 (by kernel_rfl) rfl #[.slice (some ⟨ga, 0, none⟩) 64 ca, .slice As21 (secOf 1).length cs21] (by rfl) rfl rfl (by simp only [List.map_toArray, List.map_cons, List.map_nil]; rfl) ?_
      with_reducible refine (eq_part (c := ca) (off := 0) HA13.out.2 HA13.out.1 (by decide) crA_0 HC21.out HL21.out HB21.out (Nat.sub_zero ca).symm).mono ?_
      rintro e w22 ⟨rfl, ⟨nd22, rfl⟩⟩
      refine ⟨_, rfl, ?_⟩
      have HB22 := Aside0.mk (pw_below_drewN HB21.out nd22)
      refine hK.out _ _ trivial (fun hHeld => ?_)
      clear hK K
      refine norm_ (a' := ?_) ?_ ?_
      rotate_left
      · show Act.put _ (some 99) _ = _
        simp only [Act.put, List.setIfInBounds_toArray, List.set_cons_zero, List.set_cons_succ, i64_w, i32_w]
        rfl
      refine pure_ (i := 4) (N := some 100) (v := ?_) (a' := ?_) #[true, true, true, true, true, false, false, false, false, false, false, false, false, false, false, false, false, false, false, false, false, false, false, false, false, false] rfl rfl (by kernel_rfl) (fun _ _ _ h => h) (Or.inl ⟨by rfl, ?_⟩) ?_ ?_
      rotate_left
      · intro w'
        go_simp
        with_reducible rfl
      rotate_left
      · simp only [Act.put, List.setIfInBounds_toArray, List.set_cons_zero, List.set_cons_succ, i64_w, i32_w]
        rfl
      refine pure_ (i := 5) (N := some 101) (v := ?_) (a' := ?_) #[true, true, true, true, true, true, false, false, false, false, false, false, false, false, false, false, false, false, false, false, false, false, false, false, false, false] rfl rfl (by kernel_rfl) (fun _ _ _ h => h) (Or.inl ⟨by rfl, ?_⟩) ?_ ?_
      rotate_left
      · intro w'
        go_simp
        with_reducible rfl
      rotate_left
      · simp only [Act.put, List.setIfInBounds_toArray, List.set_cons_zero, List.set_cons_succ, i64_w, i32_w]
        rfl
      refine pure_ (i := 6) (N := some 102) (v := ?_) (a' := ?_) #[true, true, true, true, true, true, true, false, false, false, false, false, false, false, false, false, false, false, false, false, false, false, false, false, false, false] rfl rfl (by kernel_rfl) (fun _ _ _ h => h) (Or.inl ⟨by rfl, ?_⟩) ?_ ?_
      rotate_left
      · intro w'
        go_simp
        with_reducible rfl
      rotate_left
      · simp only [Act.put, List.setIfInBounds_toArray, List.set_cons_zero, List.set_cons_succ, i64_w, i32_w]
        rfl
      refine pure_ (i := 7) (N := some 103) (v := ?_) (a' := ?_) #[true, true, true, true, true, true, true, true, false, false, false, false, false, false, false, false, false, false, false, false, false, false, false, false, false, false] rfl rfl (by kernel_rfl) (fun _ _ _ h => h) (Or.inl ⟨by rfl, ?_⟩) ?_ ?_
      rotate_left
      · intro w'
        go_simp
        with_reducible rfl
      rotate_left
      · simp only [Act.put, List.setIfInBounds_toArray, List.set_cons_zero, List.set_cons_succ, i64_w, i32_w]
        rfl
      refine one_ (i := 8) (N := some 104) #[true, true, true, true, true, true, true, true, true, false, false, false, false, false, false, false, false, false, false, false, false, false, false, false, false, false] rfl rfl (by kernel_rfl) (by decide) (fun K hK => ?_)
      refine goes_ Try.func19 (by kernel_rfl) rfl #[.slice (some ⟨ga, 64, none⟩) 64 (ca - 64), .slice (some ⟨w12.heap.size, 0, none⟩) 64 64] (by rfl) rfl rfl (by simp only [List.map_toArray, List.map_cons, List.map_nil]; rfl) ?_
      with_reducible refine (eq_part (c := ca) (off := 64) HA13.out.2 HA13.out.1 (by decide) crA_1 (Kd.C_below HZ13.out HB22.out) (Nat.le_refl _) HB22.out rfl).mono ?_
      rintro e w23 ⟨rfl, ⟨nd23, rfl⟩⟩
      refine ⟨_, rfl, ?_⟩
      have HB23 := Aside0.mk (pw_below_drewN HB22.out nd23)
      refine hK.out _ _ trivial (fun hHeld => ?_)
      clear hK K
      refine norm_ (a' := ?_) ?_ ?_
      rotate_left
      · show Act.put _ (some 104) _ = _
        simp only [Act.put, List.setIfInBounds_toArray, List.set_cons_zero, List.set_cons_succ, i64_w, i32_w]
        rfl
      refine pure_ (i := 9) (N := some 105) (v := ?_) (a' := ?_) #[true, true, true, true, true, true, true, true, true, true, false, false, false, false, false, false, false, false, false, false, false, false, false, false, false, false] rfl rfl (by kernel_rfl) (fun _ _ _ h => h) (Or.inl ⟨by rfl, ?_⟩) ?_ ?_
      rotate_left
      · intro w'
        go_simp
        with_reducible rfl
      rotate_left
      · simp only [Act.put, List.setIfInBounds_toArray, List.set_cons_zero, List.set_cons_succ, i64_w, i32_w]
        rfl
      refine pure_ (i := 10) (N := some 106) (v := ?_) (a' := ?_) #[true, true, true, true, true, true, true, true, true, true, true, false, false, false, false, false, false, false, false, false, false, false, false, false, false, false] rfl rfl (by kernel_rfl) (fun _ _ _ h => h) (Or.inl ⟨by rfl, ?_⟩) ?_ ?_
      rotate_left
      · intro w'
        go_simp
        with_reducible rfl
      rotate_left
      · simp only [Act.put, List.setIfInBounds_toArray, List.set_cons_zero, List.set_cons_succ, i64_w, i32_w]
        rfl
      refine pure_ (i := 11) (N := some 107) (v := ?_) (a' := ?_) #[true, true, true, true, true, true, true, true, true, true, true, true, false, false, false, false, false, false, false, false, false, false, false, false, false, false] rfl rfl (by kernel_rfl) (fun _ _ _ h => h) (Or.inl ⟨by rfl, ?_⟩) ?_ ?_
      rotate_left
      · intro w'
        go_simp
        with_reducible rfl
      rotate_left
      · simp only [Act.put, List.setIfInBounds_toArray, List.set_cons_zero, List.set_cons_succ, i64_w, i32_w]
        rfl
      refine pure_ (i := 12) (N := some 108) (v := ?_) (a' := ?_) #[true, true, true, true, true, true, true, true, true, true, true, true, true, false, false, false, false, false, false, false, false, false, false, false, false, false] rfl rfl (by kernel_rfl) (fun _ _ _ h => h) (Or.inl ⟨by rfl, ?_⟩) ?_ ?_
      rotate_left
      · intro w'
        go_simp
        with_reducible rfl
      rotate_left
      · simp only [Act.put, List.setIfInBounds_toArray, List.set_cons_zero, List.set_cons_succ, i64_w, i32_w]
        rfl
      refine one_ (i := 13) (N := some 109) #[true, true, true, true, true, true, true, true, true, true, true, true, true, true, false, false, false, false, false, false, false, false, false, false, false, false] rfl rfl (by kernel_rfl) (by decide) (fun K hK => ?_)
      refine goes_ Try.func16 (by kernel_rfl) rfl #[.int .i64 2] (by rfl) rfl rfl (by simp only [List.map_toArray, List.map_cons, List.map_nil]; rfl) ?_
      with_reducible refine (dk_sector 2 _).mono ?_
      rintro e w24 ⟨vs24, rfl, hR, hb⟩
      refine ⟨_, rfl, ?_⟩
      obtain ⟨As24, cs24, rfl, hcl, hcC⟩ := Kd.R_reads hR
      have HC24 := Aside0.mk hcC
      have HL24 := Aside0.mk hcl
      have HB24 := Aside0.mk (below_step HB23.out hb)
      clear hR hb hcl hcC
      refine hK.out _ _ trivial (fun hHeld => ?_)
      clear hK K
      refine norm_ (a' := ?_) ?_ ?_
      rotate_left
      · show Act.put _ (some 109) _ = _
        simp only [Act.put, List.setIfInBounds_toArray, List.set_cons_zero, List.set_cons_succ, i64_w, i32_w]
        rfl
      refine one_ (i := 14) (N := some 110) #[true, true, true, true, true, true, true, true, true, true, true, true, true, true, true, false, false, false, false, false, false, false, false, false, false, false] rfl rfl (by kernel_rfl) (by decide) (fun K hK => ?_)
      refine goes_ Try.func19 (by kernel_rfl) rfl #[.slice (some ⟨gb, 64, none⟩) 64 (cb - 64), .slice As24 (secOf 2).length cs24] (by rfl) rfl rfl (by simp only [List.map_toArray, List.map_cons, List.map_nil]; rfl) ?_
      with_reducible refine (eq_part (c := cb) (off := 64) HX13.out.2 HX13.out.1 (by decide) crB_1 HC24.out HL24.out HB24.out rfl).mono ?_
      rintro e w25 ⟨rfl, ⟨nd25, rfl⟩⟩
      refine ⟨_, rfl, ?_⟩
      have HB25 := Aside0.mk (pw_below_drewN HB24.out nd25)
      refine hK.out _ _ trivial (fun hHeld => ?_)
      clear hK K
      refine norm_ (a' := ?_) ?_ ?_
      rotate_left
      · show Act.put _ (some 110) _ = _
        simp only [Act.put, List.setIfInBounds_toArray, List.set_cons_zero, List.set_cons_succ, i64_w, i32_w]
        rfl
      refine pure_ (i := 15) (N := some 111) (v := ?_) (a' := ?_) #[true, true, true, true, true, true, true, true, true, true, true, true, true, true, true, true, false, false, false, false, false, false, false, false, false, false] rfl rfl (by kernel_rfl) (fun _ _ _ h => h) (Or.inl ⟨by rfl, ?_⟩) ?_ ?_
      rotate_left
      · intro w'
        go_simp
        with_reducible rfl
      rotate_left
      · simp only [Act.put, List.setIfInBounds_toArray, List.set_cons_zero, List.set_cons_succ, i64_w, i32_w]
        rfl
      refine pure_ (i := 16) (N := some 112) (v := ?_) (a' := ?_) #[true, true, true, true, true, true, true, true, true, true, true, true, true, true, true, true, true, false, false, false, false, false, false, false, false, false] rfl rfl (by kernel_rfl) (fun _ _ _ h => h) (Or.inl ⟨by rfl, ?_⟩) ?_ ?_
      rotate_left
      · intro w'
        go_simp
        with_reducible rfl
      rotate_left
      · simp only [Act.put, List.setIfInBounds_toArray, List.set_cons_zero, List.set_cons_succ, i64_w, i32_w]
        rfl
      refine pure_ (i := 17) (N := some 113) (v := ?_) (a' := ?_) #[true, true, true, true, true, true, true, true, true, true, true, true, true, true, true, true, true, true, false, false, false, false, false, false, false, false] rfl rfl (by kernel_rfl) (fun _ _ _ h => h) (Or.inl ⟨by rfl, ?_⟩) ?_ ?_
      rotate_left
      · intro w'
        go_simp
        with_reducible rfl
      rotate_left
      · simp only [Act.put, List.setIfInBounds_toArray, List.set_cons_zero, List.set_cons_succ, i64_w, i32_w]
        rfl
      refine pure_ (i := 18) (N := some 114) (v := ?_) (a' := ?_) #[true, true, true, true, true, true, true, true, true, true, true, true, true, true, true, true, true, true, true, false, false, false, false, false, false, false] rfl rfl (by kernel_rfl) (fun _ _ _ h => h) (Or.inl ⟨by rfl, ?_⟩) ?_ ?_
      rotate_left
      · intro w'
        go_simp
        with_reducible rfl
      rotate_left
      · simp only [Act.put, List.setIfInBounds_toArray, List.set_cons_zero, List.set_cons_succ, i64_w, i32_w]
        rfl
      refine pure_ (i := 19) (N := some 115) (v := ?_) (a' := ?_) #[true, true, true, true, true, true, true, true, true, true, true, true, true, true, true, true, true, true, true, true, false, false, false, false, false, false] rfl rfl (by kernel_rfl) (fun _ _ _ h => h) (Or.inl ⟨by rfl, ?_⟩) ?_ ?_
      rotate_left
      · intro w'
        go_simp
        with_reducible rfl
      rotate_left
      · simp only [Act.put, List.setIfInBounds_toArray, List.set_cons_zero, List.set_cons_succ, i64_w, i32_w]
        rfl
      refine one_ (i := 20) (N := some 116) #[true, true, true, true, true, true, true, true, true, true, true, true, true, true, true, true, true, true, true, true, true, false, false, false, false, false] rfl rfl (by kernel_rfl) (by decide) (fun K hK => ?_)
      refine goes_ Try.func19 (by kernel_rfl) rfl #[.slice (some ⟨gb, 128, none⟩) 64 (cb - 128), .slice (some ⟨w12.heap.size, 0, none⟩) 64 64] (by rfl) rfl rfl (by simp only [List.map_toArray, List.map_cons, List.map_nil]; rfl) ?_
      with_reducible refine (eq_part (c := cb) (off := 128) HX13.out.2 HX13.out.1 (by decide) crB_2 (Kd.C_below HZ13.out HB25.out) (Nat.le_refl _) HB25.out rfl).mono ?_
      rintro e w26 ⟨rfl, ⟨nd26, rfl⟩⟩
      refine ⟨_, rfl, ?_⟩
      have HB26 := Aside0.mk (pw_below_drewN HB25.out nd26)
      refine hK.out _ _ trivial (fun hHeld => ?_)
      clear hK K
      refine norm_ (a' := ?_) ?_ ?_
      rotate_left
      · show Act.put _ (some 116) _ = _
        simp only [Act.put, List.setIfInBounds_toArray, List.set_cons_zero, List.set_cons_succ, i64_w, i32_w]
        rfl
      refine pure_ (i := 21) (N := some 117) (v := ?_) (a' := ?_) #[true, true, true, true, true, true, true, true, true, true, true, true, true, true, true, true, true, true, true, true, true, true, false, false, false, false] rfl rfl (by kernel_rfl) (fun _ _ _ h => h) (Or.inl ⟨by rfl, ?_⟩) ?_ ?_
      rotate_left
      · intro w'
        go_simp
        with_reducible rfl
      rotate_left
      · simp only [Act.put, List.setIfInBounds_toArray, List.set_cons_zero, List.set_cons_succ, i64_w, i32_w]
        rfl
      refine pure_ (i := 22) (N := some 118) (v := ?_) (a' := ?_) #[true, true, true, true, true, true, true, true, true, true, true, true, true, true, true, true, true, true, true, true, true, true, true, false, false, false] rfl rfl (by kernel_rfl) (fun _ _ _ h => h) (Or.inl ⟨by rfl, ?_⟩) ?_ ?_
      rotate_left
      · intro w'
        go_simp
        with_reducible rfl
      rotate_left
      · simp only [Act.put, List.setIfInBounds_toArray, List.set_cons_zero, List.set_cons_succ, i64_w, i32_w]
        rfl
      refine one_ (i := 23) (N := some 119) #[true, true, true, true, true, true, true, true, true, true, true, true, true, true, true, true, true, true, true, true, true, true, true, true, false, false] rfl rfl (by kernel_rfl) (by decide) (fun K hK => ?_)
      refine goes_ Try.func17 (by kernel_rfl) rfl #[] (by rfl) rfl rfl (by simp only [List.map_toArray, List.map_cons, List.map_nil]) ?_
      with_reducible refine (dk_wakes _).mono ?_
      rintro e w27 ⟨rfl, hb⟩
      refine ⟨_, rfl, ?_⟩
      have HB27 := Aside0.mk (below_step HB26.out hb)
      clear hb
      refine hK.out _ _ trivial (fun hHeld => ?_)
      clear hK K
      refine norm_ (a' := ?_) ?_ ?_
      rotate_left
      · show Act.put _ (some 119) _ = _
        simp only [Act.put, List.setIfInBounds_toArray, List.set_cons_zero, List.set_cons_succ, i64_w, i32_w]
        rfl
      refine pure_ (i := 24) (N := some 120) (v := ?_) (a' := ?_) #[true, true, true, true, true, true, true, true, true, true, true, true, true, true, true, true, true, true, true, true, true, true, true, true, true, false] rfl rfl (by kernel_rfl) (fun _ _ _ h => h) (Or.inl ⟨by rfl, ?_⟩) ?_ ?_
      rotate_left
      · intro w'
        go_simp
        with_reducible rfl
      rotate_left
      · simp only [Act.put, List.setIfInBounds_toArray, List.set_cons_zero, List.set_cons_succ, i64_w, i32_w]
        rfl
      refine pure_ (i := 25) (N := some 2) (v := ?_) (a' := ?_) #[true, true, true, true, true, true, true, true, true, true, true, true, true, true, true, true, true, true, true, true, true, true, true, true, true, true] rfl rfl (by kernel_rfl) (fun _ _ _ h => h) (Or.inl ⟨by rfl, ?_⟩) ?_ ?_
      rotate_left
      · intro w'
        go_simp
        with_reducible rfl
      rotate_left
      · simp only [Act.put, List.setIfInBounds_toArray, List.set_cons_zero, List.set_cons_succ, i64_w, i32_w]
        rfl
      refine done_ (by kernel_rfl) ?_
      go_wp2
      go_ret
      exact ⟨rfl, below_step (below_alloc HB12.out _) HB27.out⟩

end Go.Proofs.Ytpkhpfgojhojaaa.PDk

namespace Go.Proofs.Ytpkhpfgojhojaaa.PDk
open Go.RowKit Go.Proofs.YtpkhpfgojhojaaaW.PrintWords Go.Proofs.YtpkhpfgojhojaaaW.PrintLast Go.Proofs.YtpkhpfgojhojaaaW.PrintMore
attribute [local go_sem] max2_int min2_int max_two min_two max_three min_three max_four min_four
set_option linter.unusedVariables false
set_option linter.unusedSimpArgs false
-- IMPORT: Derived.Test.@N@WOwn
-- IMPORT: Derived.Test.@N@OpensDk
-- IMPORT: Derived.Test.@N@DLawoff
theorem diskOff_row (cs : Array Value) (x : Int × List S45 × List (Int × Int × Int × List Int)) (w : World) (h : ok25 x) (hk : (Kd.pair (Kd.int .i64) (Kd.pair (Kd.slice 45 k45) (Kd.slice 35 (Kd.pair (Kd.int .i64) (Kd.pair (Kd.int .i64) (Kd.pair (Kd.int .i64) (Kd.slice 3 (Kd.int .i64)))))))).K w x cs.toList) :
    Calls Try.prog 4 #[.agg cs] w fun e w' => e = .returned (.bool true) ∧ Below w.heap.size w w' := by
  obtain ⟨a0, l1, l2⟩ := x
  obtain ⟨q1, q2, e, h1, q3, q4, rfl, ⟨A1, c1, rfl, hl1, hC1⟩, ⟨A2, c2, rfl, hl2, hC2⟩⟩ := hk
  have h1' : q1 = [.int .i64 a0] := h1
  subst h1'
  obtain rfl : cs = #[.int .i64 a0, .slice A1 l1.length c1, .slice A2 l2.length c2] := Array.ext' e
  exact gangwaylaw11_DiskOff.walk a0 A1 A2 l1.length l2.length c1 c2 hC2.2.1 w

end Go.Proofs.Ytpkhpfgojhojaaa.PDk
