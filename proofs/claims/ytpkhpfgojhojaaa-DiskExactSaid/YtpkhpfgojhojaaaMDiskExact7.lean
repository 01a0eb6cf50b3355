/- Parts of one proof, merged by merge.py of this repo: walks over the given program and plain facts, used by the law of the file YtpkhpfgojhojaaaCDiskExact. -/
import Derived.Test.YtpkhpfgojhojaaaMDiskExact3
import Derived.Test.YtpkhpfgojhojaaaMDiskExact5
import Derived.Test.YtpkhpfgojhojaaaMDiskExact4
import Derived.Test.YtpkhpfgojhojaaaMDiskExact6
import Derived.Test.YtpkhpfgojhojaaaMDiskExact2
namespace Go.Proofs.Ytpkhpfgojhojaaa.PDk
open Go.RowKit Go.Proofs.YtpkhpfgojhojaaaW.PrintWords Go.Proofs.YtpkhpfgojhojaaaW.PrintLast Go.Proofs.YtpkhpfgojhojaaaW.PrintMore
attribute [local go_sem] max2_int min2_int max_two min_two max_three min_three max_four min_four
set_option linter.unusedVariables false
set_option linter.unusedSimpArgs false
-- FUNCTION: gangway/gangwaylaw11.DiskExact
-- IMPORT: Derived.Test.@N@WOwn
-- IMPORT: Derived.Test.@N@DRefmay
-- IMPORT: Derived.Test.@N@DLawsafe
-- IMPORT: Derived.Test.@N@DLawoff
theorem dk_New_any (A : Option Addr) (c : Nat) (I : List Int) (T : Option Addr) (ct : Nat) (ts : List S45) (w : World) (hI : (Kd.int .u8).C w A I.length I) (hc : I.length ≤ c) (hT : Kd.C k45 w T ts.length ts) (hw : ∀ t ∈ ts, (Lit.int .i64 t.f0).wf = true) :
    Calls Try.prog 9 #[.slice A I.length c, .slice T ts.length ct] w (NewPost w I ts) := by
  by_cases h : I.length % 64 = 0 ∧ 64 ≤ I.length ∧ I.length ≤ 1048576
  · exact dk_New_may A c I T ct ts w hI hc hT hw h
  · exact dk_New_bad A c I T ct ts w hI h
theorem Both.un {w : World} {bd d r : Nat} {P : Nat → Prop} {y : Dk} {x : Rk} (h : Both w bd P d r y x) : Both w bd (fun _ => False) d r y x := by
  obtain ⟨okd, okr, h1, h2, h3, h4, h5⟩ := h
  exact ⟨okd, okr, h1, fun k hk => ⟨(h2 k hk).1, id⟩, fun k hk => ⟨(h3 k hk).1, id⟩, h4, h5⟩
theorem Both.spoilt {w w1 w2 : World} {bd d r : Nat} {P S : Nat → Prop} {y : Dk} {x : Rk} (h : Both w bd P d r y x) (hb : Below w.heap.size w w1) (hk : Kept w1 w2 S) (hS : ∀ k, S k → w.heap.size ≤ k) : Both w2 bd (fun _ => False) d r y x :=
  ((h.below hb (P' := fun k => w.heap.size ≤ k) (fun _ hk => hk)).kept hk hS).un
theorem length_readD (y : Dk) (i : Int) : (y.read i).1.length ≤ 64 := by
  unfold Dk.read
  split
  · split
    · exact Nat.zero_le _
    · unfold sec; exact List.length_take_le _ _
  · exact Nat.zero_le _
theorem length_crashD {y : Dk} (h : y.Fits) (ps : List Int) : (y.crash ps).length ≤ 1048576 := by
  unfold Dk.crash
  obtain ⟨h1, h2, h3, h4⟩ := h
  rw [length_crashL _ _ _ _ _ _ (by omega) (by omega)]
  omega
set_option maxHeartbeats 32000000 in
set_option maxRecDepth 100000 in
theorem gangwaylaw11_DiskExact.walk (a0 : Int) (A1 A2 : Option Addr) (c1 c2 : Nat) (l1 : List S45) (l2 : List (Int × Int × Int × List Int)) (w : World) (hT : Kd.C k45 w A1 l1.length l1) (htc : l1.length ≤ c1) (htw : ∀ t ∈ l1, (Lit.int .i64 t.f0).wf = true) (hC : Kd.C (Kd.pair (Kd.int .i64) (Kd.pair (Kd.int .i64) (Kd.pair (Kd.int .i64) (Kd.slice 3 (Kd.int .i64))))) w A2 l2.length l2) :
    Calls Try.prog 5 #[.agg #[.int .i64 a0, .slice A1 l1.length c1, .slice A2 l2.length c2]] w fun e w' => e = .returned (.bool true) ∧ Below w.heap.size w w' := by
  have HT := Aside0.mk hT
  have HTC := Aside0.mk htc
  have HTW := Aside0.mk htw
  have HCL := Aside0.mk hC
  have hmax := hC.2.1
  have hmax1 := hT.2.1
  have hus := Try.underlying25
  have hua := Try.underlying35
  have HB0 := Aside0.mk (below_alloc (Below.refl w.heap.size w) (.cells #[.int .i64 a0, .slice A1 l1.length c1, .slice A2 l2.length c2] 25))
  have HS0 := Aside0.mk (blk_new w (.cells #[.int .i64 a0, .slice A1 l1.length c1, .slice A2 l2.length c2] 25))
  clear hT htc htw hC
  by_cases k1 : a0 < 0
  · have t1 : decide (a0 < 0) = true := decide_eq_true k1
    clear k1
    go_enter Try.func5, Try.ntmps5
    go_wp2
    go_ret
    exact ⟨rfl, HB0.out⟩
  · have t1 : decide (a0 < 0) = false := decide_eq_false k1
    by_cases k2 : a0 > 2000
    · have t2 : decide (a0 > 2000) = true := decide_eq_true k2
      have t2' : decide (2000 < a0) = true := decide_eq_true k2
      clear k1 k2
      go_enter Try.func5, Try.ntmps5
      go_wp2
      go_ret
      exact ⟨rfl, HB0.out⟩
    · have t2 : decide (a0 > 2000) = false := decide_eq_false k2
      have t2' : decide (2000 < a0) = false := decide_eq_false k2
      by_cases k3 : (l1.length : Int) > 30
      · have t3 : decide ((l1.length : Int) > 30) = true := decide_eq_true k3
        have t3' : decide (30 < l1.length) = true := decide_eq_true (by omega)
        clear k1 k2 k3
        go_enter Try.func5, Try.ntmps5
        go_wp2
        go_ret
        exact ⟨rfl, HB0.out⟩
      · have t3 : decide ((l1.length : Int) > 30) = false := decide_eq_false k3
        have t3' : decide (30 < l1.length) = false := decide_eq_false (by omega)
        obtain ⟨m, rfl⟩ : ∃ m : Nat, a0 = (m : Int) := ⟨a0.toNat, by omega⟩
        have HM2 : Aside0 (m ≤ 2000) := ⟨by omega⟩
        have hm2 := HM2.out
        have HL30 : Aside0 (l1.length ≤ 30) := ⟨by omega⟩
        obtain ⟨z, hz, hmk, hR0⟩ := mk_zero m (m : Int) rfl (by omega)
        have HRZ := hR0 (w.alloc (.cells #[.int .i64 (m : Int), .slice A1 l1.length c1, .slice A2 l2.length c2] 25))
        rw [World.size_alloc] at HRZ
        have HRZ := Aside0.mk HRZ
        have HZL : Aside0 (z.length = m) := ⟨by rw [hz, List.length_replicate]⟩
        have HS1 := Aside0.mk (blk_alloc HS0.out (.cells (nums .u8 z).toArray 5))
        have HB1 := Aside0.mk (below_alloc HB0.out (.cells (nums .u8 z).toArray 5))
        clear k1 k2 k3 hz hR0
        go_enter Try.func5, Try.ntmps5
        go_wp2
        go_loopw [4] (fun v4 w' => ∃ (i : Nat) (q : List Int), i ≤ m ∧ v4 = .int .i64 i ∧ Aside0 (q.length = m) ∧ Aside0 ((Kd.int .u8).Q 5 w' (w.heap.size + 1) (fun k => k = w.heap.size + 1) (.slice (some ⟨w.heap.size + 1, 0, none⟩) m m) q) ∧ Aside0 (w'.heap[w.heap.size]? = some (.cells #[.int .i64 (m : Int), .slice A1 l1.length c1, .slice A2 l2.length c2] 25 (0, 0))) ∧ Aside0 (Below w.heap.size w w') ∧ Aside0 (w.heap.size + 1 < w'.heap.size)) (fun v4 _ => m - (intOf v4).toNat)
        case atStart => exact ⟨0, z, Nat.zero_le _, rfl, HZL, ⟨Kd.Q_of_R (Kd.R_flat (ok' := fun k => k = w.heap.size + 1) (fun hd => hd) HRZ.out (fun k hk _ => (Option.some.inj hk).symm))⟩, HS1, HB1, ⟨by rw [World.size_alloc, World.size_alloc]; omega⟩⟩
        case round =>
          clear HRZ HS1 HB1 HZL HS0 HB0
          obtain ⟨i, q, hi, rfl, HL, HR, HS, HB, HWR⟩ := hrel
          by_cases hlt : i < m
          · have hcell := Kd.Q_cell (enc := Value.int .u8) (h1 := fun _ => rfl) (0 : Int) HR.out (i : Int) (by omega) (by omega)
            rw [Int.toNat_natCast, Nat.zero_add] at hcell
            obtain ⟨yy, hyy⟩ : ∃ y, y = rdOf (0 : Int) q (i : Int) := ⟨_, rfl⟩
            rw [← hyy] at hcell
            obtain ⟨hq1, hq2⟩ := hcell
            have HPUT := Aside0.mk (fun x : Int => Kd.Q_putg (enc := Value.int .u8) (h1 := fun _ => rfl) HR.out (i : Int) (show (0 : Int) ≤ (i : Int) by omega) (show (i : Int) < (m : Int) by omega) x)
            clear hyy
            go_wp2
            go_roundw
            case rel =>
              have := fun x => HPUT.out x
              simp only [Int.toNat_natCast, Nat.zero_add] at this
              exact ⟨i + 1, _, by omega, by go_num, ⟨by rw [List.length_set]; exact HL.out⟩, ⟨(this _).1⟩, ⟨blk_far HS.out (p := ⟨w.heap.size + 1, i, none⟩) (by show w.heap.size ≠ w.heap.size + 1; omega) _⟩, ⟨HB.out.setCell (p := ⟨w.heap.size + 1, i, none⟩) (by show _ ≤ w.heap.size + 1; omega) _⟩, ⟨by rw [Deep.nblk_setCell]; exact HWR.out⟩⟩
            case measure => simp [intOf]; omega
          · obtain rfl := HL.out
            have hge : decide (i < q.length) = false := decide_eq_false hlt
            have hge2 : decide ((i : Int) < (q.length : Int)) = false := decide_eq_false (by omega)
            obtain ⟨_, _, hCI⟩ := Kd.Q_reads' HR.out
            have HI := Aside0.mk hCI
            clear hCI
            go_wp2_with fail
            refine (dk_copyB (some ⟨w.heap.size + 1, 0, none⟩) q.length q _ HI.out (Nat.le_refl _) (by omega)).mono ?_
            rintro e' w3 ⟨vi, rfl, hR, hb⟩
            obtain ⟨Ai, ci, rfl, hci, hCi⟩ := Kd.R_reads hR
            have HRI := Aside0.mk hR
            have HCI := Aside0.mk hCi
            have HCC := Aside0.mk hci
            have HS3 := Aside0.mk (blk_below HS.out hb)
            have HI3 := Aside0.mk (Kd.C_below HI.out hb)
            have HB3 := Aside0.mk (below_step HB.out hb)
            have HSZ3 := Aside0.mk hb.size
            clear hR hb hci hCi
            have hs1 := (blk_cell HS3.out 1).trans rfl
            have HBLK := HWR
            go_wp2_with fail
            refine (dk_New_any Ai ci q A1 c1 l1 _ HCI.out HCC.out (Kd.C_below HT.out HB3.out) HTW.out).mono ?_
            rintro e' w4 hpost
            obtain ⟨hb, hcase⟩ := hpost
            have HS4 := Aside0.mk (blk_below HS3.out hb)
            have HI4 := Aside0.mk (Kd.C_below HI3.out hb)
            have HB4 := Aside0.mk (below_step HB3.out hb)
            have HQ4 := Aside0.mk (Kd.Q_of_R (Kd.R_below (Kd.R_mono (Kd.R_bound HRI.out) (ok' := fun k => wr.heap.size ≤ k ∧ k < w3.heap.size) (fun k hk => ⟨hk.2.1, hk.2.2.1⟩)) hb))
            have HSZ4 := Aside0.mk hb.size
            clear hb hs1
            obtain ⟨kM, rM, hrM, hiM⟩ := may_f q l1 (by omega) (by have := HL30.out; omega)
            have HMAY := Aside0.mk hrM
            have HMI := Aside0.mk hiM
            clear hrM hiM
            rcases hcase with ⟨hgd, d, rfl, hd⟩ | ⟨hgd, rfl⟩
            · have HGD := Aside0.mk hgd
              have HD4 := Aside0.mk hd
              have hrt : rM = true := HMI.out.2 hgd
              subst hrt
              clear hgd hd
              go_wp2_with fail
              refine (dk_spoil _ q _ wr.heap.size _ HQ4.out (Nat.le_trans HSZ3.out HSZ4.out) (by omega)).mono ?_
              rintro e' w5 ⟨rfl, hk, hb⟩
              have HD5 := Aside0.mk (HD4.out.bound.kept hk (fun k hk hs => by have h1 : w3.heap.size ≤ k := hk.2.1; have h2 : k < w3.heap.size := hs.2; omega))
              have HS5 := Aside0.mk (blk_low HS4.out hb (by have := HBLK.out; omega))
              have HI5 := Aside0.mk (C_keptB HI4.out hk (fun ad e hs => by injection e with e; subst e; have h1 : wr.heap.size ≤ w.heap.size + 1 := hs.1; have := HBLK.out; omega))
              have HB5 := Aside0.mk (HB4.out.trans (hb.mono HB.out.size))
              have HSZ5 := Aside0.mk hk.1
              have hs1 := (blk_cell HS5.out 1).trans rfl
              clear hk hb
              go_wp2_with fail
              refine (gangwayref11_May.calls kM (some ⟨w.heap.size + 1, 0, none⟩) q.length q A1 c1 l1 true _ HI5.out (Nat.le_refl _) (Kd.C_below HT.out HB5.out) HTC.out HMAY.out).mono ?_
              rintro e' w6 ⟨rfl, ⟨nd, rfl⟩⟩
              go_wp2_with (first | (go_at_call 10; refine (dk_num _ _).mono ?_; rintro e' w' ⟨rfl, rfl⟩))
              refine (rk_New (w.heap.size + 1) q.length q A1 c1 l1 _ (Kd.C_drewN HI5.out _) (Nat.le_refl _) (Kd.C_drewN (Kd.C_below HT.out HB5.out) _) HTC.out ⟨HGD.out.1, HGD.out.2.1, HGD.out.2.2.1⟩ (by have := HL30.out; omega)).mono ?_
              rintro e' w7 ⟨r, rfl, hr, hb⟩
              have HBO := Aside0.mk (Both.start (bd := w3.heap.size) ((HD5.out.bound.below (pw_below_drewN (Below.refl _ _) nd)).below hb |>.mono (fun k hk => hk.2.2)) hr (Nat.le_refl _) (Nat.le_trans HSZ4.out HSZ5.out))
              have HS7 := Aside0.mk (blk_below (blk_drewN HS5.out nd) hb)
              have HB7 := Aside0.mk (below_step (pw_below_drewN HB5.out nd) hb)
              have HSM := Aside0.mk (same_new HGD.out)
              have HBD : Aside0 (w3.heap.size ≤ w7.heap.size ∧ w.heap.size < w3.heap.size) := ⟨Nat.le_trans (Nat.le_trans HSZ4.out HSZ5.out) hb.size, by have := HBLK.out; have := HSZ3.out; omega⟩
              clear hr hb hs1
              obtain ⟨bd, hbd⟩ : ∃ bd, bd = w3.heap.size := ⟨_, rfl⟩
              rw [← hbd] at HBO HBD
              clear hbd
              go_wp2
              go_loopw [9] (fun v9 w' => ∃ (n : Nat) (y : Dk) (x : Rk), n ≤ 40 ∧ n ≤ l2.length ∧ v9 = .int .i64 n ∧ Aside0 (Same y x) ∧ Aside0 (Both w' bd (fun _ => False) d r y x) ∧ Aside0 (w'.heap[w.heap.size]? = some (.cells #[.int .i64 (q.length : Int), .slice A1 l1.length c1, .slice A2 l2.length c2] 25 (0, 0))) ∧ Aside0 (bd ≤ w'.heap.size) ∧ Aside0 (Below w.heap.size w w')) (fun v9 _ => 40 - (intOf v9).toNat)
              case atStart => exact ⟨0, _, _, Nat.zero_le _, Nat.zero_le _, rfl, HSM, HBO, HS7, ⟨HBD.out.1⟩, HB7⟩
              case round =>
                have HWB : Aside0 (w.heap.size < bd) := ⟨HBD.out.2⟩
                clear HSM HBO HS7 HBD HB7 HB HS HR
                obtain ⟨n, y, x, h40, hn, rfl, HSM, HBO, HBS, HDB, HB⟩ := hrel
                obtain ⟨wo, rfl⟩ : ∃ wo : World, wo = wr := ⟨_, rfl⟩
                have hs2 := (blk_cell HBS.out 2).trans rfl
                by_cases hlt : n < l2.length
                · by_cases h4 : n < 40
                  · obtain ⟨ad, P, cp, rfl, hx0, hx1, hx2, hx3, hpc, hpC⟩ := act_cells HCL.out HB.out n hlt
                    obtain ⟨⟨aDo, aI, aB, ps⟩, hact⟩ : ∃ q, q = l2.getD n (0, 0, 0, []) := ⟨_, rfl⟩
                    rw [← hact] at hx0 hx1 hx2 hx3 hpc hpC
                    clear hact
                    simp only at hx0 hx1 hx2 hx3 hpc hpC
                    have HPC := Aside0.mk hpc
                    have HPP := Aside0.mk (Kd.C_below hpC HB.out)
                    obtain ⟨r2, hr2, h20, h21⟩ := within_f aDo 7 (by decide) (by decide)
                    obtain ⟨qq, rfl⟩ : ∃ q : Nat, r2 = (q : Int) := ⟨r2.toNat, by omega⟩
                    have HR2 := Aside0.mk hr2
                    have HBO5 := Aside0.mk (HBO.out.below' (below_alloc (Below.refl _ _) (.cells #[.int .i64 aDo, .int .i64 aI, .int .i64 aB, .slice P ps.length cp] 35)))
                    have HBS5 := Aside0.mk (blk_alloc HBS.out (.cells #[.int .i64 aDo, .int .i64 aI, .int .i64 aB, .slice P ps.length cp] 35))
                    have HAB5 := Aside0.mk (blk_new wo (.cells #[.int .i64 aDo, .int .i64 aI, .int .i64 aB, .slice P ps.length cp] 35))
                    have HB5 := Aside0.mk (below_alloc HB.out (.cells #[.int .i64 aDo, .int .i64 aI, .int .i64 aB, .slice P ps.length cp] 35))
                    have HPP5 := Aside0.mk (Kd.C_alloc HPP.out (.cells #[.int .i64 aDo, .int .i64 aI, .int .i64 aB, .slice P ps.length cp] 35))
                    have HBD5 : Aside0 (bd ≤ (wo.alloc (.cells #[.int .i64 aDo, .int .i64 aI, .int .i64 aB, .slice P ps.length cp] 35)).heap.size) := ⟨by rw [World.size_alloc]; have := HDB.out; omega⟩
                    have HLTD : Aside0 (w.heap.size ≤ bd) := ⟨Nat.le_of_lt HWB.out⟩
                    have HLW5 : Aside0 (w.heap.size < (wo.alloc (.cells #[.int .i64 aDo, .int .i64 aI, .int .i64 aB, .slice P ps.length cp] 35)).heap.size) := ⟨by rw [World.size_alloc]; have := HB.out.size; omega⟩
                    have HW5 := Aside0.mk (below_alloc (Below.refl wo.heap.size wo) (.cells #[.int .i64 aDo, .int .i64 aI, .int .i64 aB, .slice P ps.length cp] 35))
                    clear hpc hpC hr2 HPP
                    by_cases h100 : (ps.length : Int) > 100
                    · have t100 : decide ((ps.length : Int) > 100) = true := decide_eq_true h100
                      have t100' : decide (100 < ps.length) = true := decide_eq_true (by omega)
                      clear h100 h20 h21
                      go_wp2
                      go_ret
                      exact ⟨rfl, HB5.out⟩
                    · have t100 : decide ((ps.length : Int) > 100) = false := decide_eq_false h100
                      have t100' : decide (100 < ps.length) = false := decide_eq_false (by omega)
                      clear h100
                      go_wp2_with fail
                      refine (dk_within aDo 7 _ HR2.out _ (.inr (.inl rfl))).mono ?_
                      rintro e' w5 ⟨rfl, rfl⟩
                      clear hx0 hx1 hx2 hx3 hs2
                      have ha1 := (blk_cell HAB5.out 1).trans rfl
                      have ha2 := (blk_cell HAB5.out 2).trans rfl
                      have ha3 := (blk_cell HAB5.out 3).trans rfl
                      by_cases q4 : qq = 4
                      · subst q4
                        clear h20 h21
                        go_wp2_with fail
                        refine (both_Flush HBO5.out HBD5.out (fun _ h => h.elim)).mono ?_
                        rintro e' w6 ⟨rfl, ho, hk, hb⟩
                        rw [(same_flush HSM.out).1]
                        have HBO6 := Aside0.mk ho
                        have HSM7 := Aside0.mk (same_flush HSM.out).2
                        have HB6 := Aside0.mk (HB5.out.trans (hb.mono HLTD.out))
                        have HBS6 := Aside0.mk (blk_low HBS5.out hb HWB.out)
                        have HBD6 := Aside0.mk (Nat.le_trans HBD5.out hb.size)
                        clear ho hk hb ha1 ha2 ha3
                        go_wp2_with (first | (go_at_call 10; refine (dk_num _ _).mono ?_; rintro e' w' ⟨rfl, rfl⟩))
                        refine (both_rFlush HBO6.out (fun _ h => h.elim)).mono ?_
                        rintro e' w7 ⟨rfl, ho, hk, hb⟩
                        have HBO7 := Aside0.mk ho
                        have HB7 := Aside0.mk (HB6.out.trans (hb.mono HLTD.out))
                        have HBS7 := Aside0.mk (blk_low HBS6.out hb HWB.out)
                        have HBD7 := Aside0.mk (Nat.le_trans HBD6.out hb.size)
                        clear ho hk hb
                        go_wp2_with (first | (go_at_call 10; refine (dk_num _ _).mono ?_; rintro e' w' ⟨rfl, rfl⟩))
                        obtain ⟨okd, hdk⟩ := HBO7.out.dk
                        refine (dk_strokes d _ _ _ _ hdk).mono ?_
                        rintro e' w' ⟨rfl, rfl⟩
                        rw [HSM7.out.2.1]
                        go_wp2_with fail
                        obtain ⟨okr, hrk⟩ := HBO7.out.rk
                        refine (rk_strokes r _ _ _ _ hrk).mono ?_
                        rintro e' w' ⟨rfl, rfl⟩
                        go_wp2_with fail
                        refine (dk_count d _ _ _ _ hdk).mono ?_
                        rintro e' w' ⟨rfl, rfl⟩
                        rw [same_count HSM7.out]
                        go_wp2_with fail
                        refine (rk_count r _ _ _ _ hrk).mono ?_
                        rintro e' w' ⟨rfl, rfl⟩
                        clear hdk hrk
                        go_wp2
                        go_roundw
                        case rel => exact ⟨n + 1, _, _, by omega, by omega, by go_num, HSM7, HBO7, HBS7, HBD7, HB7⟩
                        case measure => simp [intOf]; omega
                      · by_cases q5 : qq = 5
                        · subst q5
                          clear h20 h21 q4
                          go_wp2_with fail
                          obtain ⟨okd, hdk⟩ := HBO5.out.dk
                          refine (dk_Read d aI _ _ _ _ hdk).mono ?_
                          rintro e' w6 ⟨v, rfl, hR, hb⟩
                          have hl := length_readD y aI
                          rw [same_read HSM.out] at hR hl
                          rw [same_read HSM.out]
                          obtain ⟨⟨rl, rc⟩, hrd⟩ : ∃ q, q = x.read aI := ⟨_, rfl⟩
                          rw [← hrd] at hR hl
                          rw [← hrd]
                          replace hR : (Kd.int .u8).R 5 w6 (wo.alloc (.cells #[.int .i64 aDo, .int .i64 aI, .int .i64 aB, .slice P ps.length cp] 35)).heap.size (fun _ => True) v rl := hR
                          replace hl : rl.length ≤ 64 := hl
                          obtain ⟨Ar, cr, rfl, hrc, hrC⟩ := Kd.R_reads hR
                          have HL := Aside0.mk hl
                          have HRD := Aside0.mk hrd
                          have HQ6 := Aside0.mk (Kd.Q_of_R (Kd.R_mono (Kd.R_bound hR) (ok' := fun k => (wo.alloc (.cells #[.int .i64 aDo, .int .i64 aI, .int .i64 aB, .slice P ps.length cp] 35)).heap.size ≤ k) (fun k hk => hk.2.1)))
                          have HRC6 := Aside0.mk hrC
                          have HRL := Aside0.mk hrc
                          have HB6 := Aside0.mk (below_step HB5.out hb)
                          have HBS6 := Aside0.mk (blk_below HBS5.out hb)
                          have HBD6 := Aside0.mk (Nat.le_trans HBD5.out hb.size)
                          have HO6 := Aside0.mk hb
                          have HAB6 := Aside0.mk (blk_below HAB5.out hb)
                          have HBO6 := Aside0.mk (HBO5.out.below' hb)
                          have HPP6 := Aside0.mk (Kd.C_below HPP5.out hb)
                          clear ha1 ha2 ha3
                          have ha1 := (blk_cell HAB6.out 1).trans rfl
                          have ha3 := (blk_cell HAB6.out 3).trans rfl
                          clear hR hb hl hrc hrC hrd hdk
                          go_wp2_with fail
                          obtain ⟨okr, hrk⟩ := HBO6.out.rk
                          refine (rk_Read r aI _ _ _ _ hrk).mono ?_
                          rintro e' w7 ⟨v, rfl, hR, hb⟩
                          rw [← HRD.out] at hR
                          rw [← HRD.out]
                          replace hR : (Kd.int .u8).R 5 w7 w6.heap.size (fun _ => True) v rl := hR
                          obtain ⟨Aw, cw, rfl, hwc, hwC⟩ := Kd.R_reads hR
                          have HWC := Aside0.mk hwC
                          have HWL := Aside0.mk hwc
                          have HRC7 := Aside0.mk (Kd.C_below HRC6.out hb)
                          have HQ7 := Aside0.mk (Kd.Q_below HQ6.out hb)
                          have HB7 := Aside0.mk (below_step HB6.out hb)
                          have HBS7 := Aside0.mk (blk_below HBS6.out hb)
                          have HBD7 := Aside0.mk (Nat.le_trans HBD6.out hb.size)
                          have HO7 := Aside0.mk (below_step HO6.out hb)
                          clear hR hb hwc hwC hrk ha1 ha3
                          go_wp2_with (first | (go_at_call 10; refine (dk_num _ _).mono ?_; rintro e' w' ⟨rfl, rfl⟩))
                          refine (dk_eqB Ar cr rl Aw cw rl _ HRC7.out HRL.out HWC.out HWL.out (by have := HL.out; omega)).mono ?_
                          rintro e' w8 ⟨rfl, ⟨nd, rfl⟩⟩
                          rw [decide_eq_true rfl]
                          go_wp2_with fail
                          refine (dk_spoil _ rl _ (wo.alloc (.cells #[.int .i64 aDo, .int .i64 aI, .int .i64 aB, .slice P ps.length cp] 35)).heap.size _ (Kd.Q_drewN HQ7.out nd) ((pw_below_drewN HO7.out nd).size) (by have := HL.out; omega)).mono ?_
                          rintro e' w9 ⟨rfl, hk, hb⟩
                          have HBO9 := Aside0.mk (HBO5.out.spoilt (pw_below_drewN HO7.out nd) hk (fun k hk => hk))
                          have HB9 := Aside0.mk ((pw_below_drewN HB7.out nd).trans (hb.mono HB5.out.size))
                          have HBS9 := Aside0.mk (blk_low (blk_drewN HBS7.out nd) hb HLW5.out)
                          have HBD9 := Aside0.mk (Nat.le_trans (Nat.le_trans HBD7.out (pw_below_drewN (Below.refl w7.heap.size w7) nd).size) hb.size)
                          clear hk hb
                          go_wp2_with (first | (go_at_call 10; refine (dk_num _ _).mono ?_; rintro e' w' ⟨rfl, rfl⟩))
                          obtain ⟨okd, hdk⟩ := HBO9.out.dk
                          refine (dk_strokes d _ _ _ _ hdk).mono ?_
                          rintro e' w' ⟨rfl, rfl⟩
                          rw [HSM.out.2.1]
                          go_wp2_with fail
                          obtain ⟨okr, hrk⟩ := HBO9.out.rk
                          refine (rk_strokes r _ _ _ _ hrk).mono ?_
                          rintro e' w' ⟨rfl, rfl⟩
                          go_wp2_with fail
                          refine (dk_count d _ _ _ _ hdk).mono ?_
                          rintro e' w' ⟨rfl, rfl⟩
                          rw [same_count HSM.out]
                          go_wp2_with fail
                          refine (rk_count r _ _ _ _ hrk).mono ?_
                          rintro e' w' ⟨rfl, rfl⟩
                          clear hdk hrk
                          go_wp2
                          go_roundw
                          case rel => exact ⟨n + 1, _, _, by omega, by omega, by go_num, HSM, HBO9, HBS9, HBD9, HB9⟩
                          case measure => simp [intOf]; omega
                        · by_cases q6 : qq = 6
                          · subst q6
                            clear h20 h21 q4 q5
                            go_wp2_with fail
                            obtain ⟨okd, hdk⟩ := HBO5.out.dk
                            refine (dk_Crash d P cp ps _ _ _ _ hdk HPP5.out HPC.out).mono ?_
                            rintro e' w6 ⟨v, rfl, hR, hb⟩
                            have hl := length_crashD hdk.fits ps
                            rw [same_crash HSM.out] at hR hl
                            obtain ⟨rl, hrd⟩ : ∃ q, q = x.crash ps := ⟨_, rfl⟩
                            rw [← hrd] at hR hl
                            obtain ⟨Ar, cr, rfl, hrc, hrC⟩ := Kd.R_reads hR
                            have HL := Aside0.mk hl
                            have HRD := Aside0.mk hrd
                            have HQ6 := Aside0.mk (Kd.Q_of_R (Kd.R_mono (Kd.R_bound hR) (ok' := fun k => (wo.alloc (.cells #[.int .i64 aDo, .int .i64 aI, .int .i64 aB, .slice P ps.length cp] 35)).heap.size ≤ k) (fun k hk => hk.2.1)))
                            have HRC6 := Aside0.mk hrC
                            have HRL := Aside0.mk hrc
                            have HB6 := Aside0.mk (below_step HB5.out hb)
                            have HBS6 := Aside0.mk (blk_below HBS5.out hb)
                            have HBD6 := Aside0.mk (Nat.le_trans HBD5.out hb.size)
                            have HO6 := Aside0.mk hb
                            have HAB6 := Aside0.mk (blk_below HAB5.out hb)
                            have HBO6 := Aside0.mk (HBO5.out.below' hb)
                            have HPP6 := Aside0.mk (Kd.C_below HPP5.out hb)
                            clear ha1 ha2 ha3
                            have ha1 := (blk_cell HAB6.out 1).trans rfl
                            have ha3 := (blk_cell HAB6.out 3).trans rfl
                            clear hR hb hl hrc hrC hrd hdk
                            go_wp2_with fail
                            obtain ⟨okr, hrk⟩ := HBO6.out.rk
                            refine (rk_Crash r P cp ps _ _ _ _ hrk HPP6.out HPC.out).mono ?_
                            rintro e' w7 ⟨v, rfl, hR, hb⟩
                            rw [← HRD.out] at hR
                            obtain ⟨Aw, cw, rfl, hwc, hwC⟩ := Kd.R_reads hR
                            have HWC := Aside0.mk hwC
                            have HWL := Aside0.mk hwc
                            have HRC7 := Aside0.mk (Kd.C_below HRC6.out hb)
                            have HQ7 := Aside0.mk (Kd.Q_below HQ6.out hb)
                            have HB7 := Aside0.mk (below_step HB6.out hb)
                            have HBS7 := Aside0.mk (blk_below HBS6.out hb)
                            have HBD7 := Aside0.mk (Nat.le_trans HBD6.out hb.size)
                            have HO7 := Aside0.mk (below_step HO6.out hb)
                            clear hR hb hwc hwC hrk ha1 ha3
                            go_wp2_with fail
                            refine (dk_eqB Ar cr rl Aw cw rl _ HRC7.out HRL.out HWC.out HWL.out (by have := HL.out; omega)).mono ?_
                            rintro e' w8 ⟨rfl, ⟨nd, rfl⟩⟩
                            rw [decide_eq_true rfl]
                            go_wp2_with fail
                            refine (dk_spoil _ rl _ (wo.alloc (.cells #[.int .i64 aDo, .int .i64 aI, .int .i64 aB, .slice P ps.length cp] 35)).heap.size _ (Kd.Q_drewN HQ7.out nd) ((pw_below_drewN HO7.out nd).size) (by have := HL.out; omega)).mono ?_
                            rintro e' w9 ⟨rfl, hk, hb⟩
                            have HBO9 := Aside0.mk (HBO5.out.spoilt (pw_below_drewN HO7.out nd) hk (fun k hk => hk))
                            have HB9 := Aside0.mk ((pw_below_drewN HB7.out nd).trans (hb.mono HB5.out.size))
                            have HBS9 := Aside0.mk (blk_low (blk_drewN HBS7.out nd) hb HLW5.out)
                            have HBD9 := Aside0.mk (Nat.le_trans (Nat.le_trans HBD7.out (pw_below_drewN (Below.refl w7.heap.size w7) nd).size) hb.size)
                            clear hk hb
                            go_wp2_with (first | (go_at_call 10; refine (dk_num _ _).mono ?_; rintro e' w' ⟨rfl, rfl⟩))
                            obtain ⟨okd, hdk⟩ := HBO9.out.dk
                            refine (dk_strokes d _ _ _ _ hdk).mono ?_
                            rintro e' w' ⟨rfl, rfl⟩
                            rw [HSM.out.2.1]
                            go_wp2_with fail
                            obtain ⟨okr, hrk⟩ := HBO9.out.rk
                            refine (rk_strokes r _ _ _ _ hrk).mono ?_
                            rintro e' w' ⟨rfl, rfl⟩
                            go_wp2_with fail
                            refine (dk_count d _ _ _ _ hdk).mono ?_
                            rintro e' w' ⟨rfl, rfl⟩
                            rw [same_count HSM.out]
                            go_wp2_with fail
                            refine (rk_count r _ _ _ _ hrk).mono ?_
                            rintro e' w' ⟨rfl, rfl⟩
                            clear hdk hrk
                            go_wp2
                            go_roundw
                            case rel => exact ⟨n + 1, _, _, by omega, by omega, by go_num, HSM, HBO9, HBS9, HBD9, HB9⟩
                            case measure => simp [intOf]; omega
                          · have t4 : ((qq : Int) == 4) = false := by simp; omega
                            have t4' : (qq == 4) = false := by simpa using q4
                            have t5 : ((qq : Int) == 5) = false := by simp; omega
                            have t5' : (qq == 5) = false := by simp; omega
                            have t6 : ((qq : Int) == 6) = false := by simp; omega
                            have t6' : (qq == 6) = false := by simp; omega
                            clear q4 q5 q6 h20 h21
                            go_wp2_with fail
                            refine (dk_sector aB _).mono ?_
                            rintro e' w6 ⟨vs, rfl, hR, hb⟩
                            obtain ⟨gb, cb, rfl, _⟩ := Kd.R_form hR (by rw [length_secOf]; decide)
                            rw [length_secOf] at hR
                            rw [length_secOf]
                            have HQ6 := Aside0.mk (Kd.Q_of_R (Kd.R_mono (Kd.R_bound hR) (ok' := fun k => (wo.alloc (.cells #[.int .i64 aDo, .int .i64 aI, .int .i64 aB, .slice P ps.length cp] 35)).heap.size ≤ k ∧ k < w6.heap.size) (fun k hk => ⟨hk.2.1, hk.2.2.1⟩)))
                            have hcb : 64 ≤ cb := (R_C hR).1
                            have HB6 := Aside0.mk (below_step HB5.out hb)
                            have HBS6 := Aside0.mk (blk_below HBS5.out hb)
                            have HBD6 := Aside0.mk (Nat.le_trans HBD5.out hb.size)
                            have HAB6 := Aside0.mk (blk_below HAB5.out hb)
                            have HBO6 := Aside0.mk (HBO.out.below (P' := fun k => wo.heap.size ≤ k ∧ k < w6.heap.size) (below_step HW5.out hb) (fun k hk => hk.1))
                            have HO6 := Aside0.mk hb
                            have HLA : Aside0 (wo.heap.size < w6.heap.size) := ⟨by have := hb.size; rw [World.size_alloc] at this; omega⟩
                            clear hR hb ha1 ha2 ha3
                            have ha1 := (blk_cell HAB6.out 1).trans rfl
                            have ha2 := (blk_cell HAB6.out 2).trans rfl
                            by_cases q7 : aB.tmod 29 = 7
                            · have t7 : (aB.tmod 29 == 7) = true := by simpa using q7
                              clear q7
                              obtain ⟨bb, hbb⟩ : ∃ bb, bb = (secOf aB).drop 1 := ⟨_, rfl⟩
                              have hlb : bb.length = 63 := by rw [hbb, List.length_drop, length_secOf]
                              have hQb := Kd.Q_drop (k := 1) HQ6.out (by rw [length_secOf]; decide)
                              rw [if_neg (by omega), ← hbb] at hQb
                              have HQB : Aside0 ((Kd.int .u8).Q 5 w6 (wo.alloc (.cells #[.int .i64 aDo, .int .i64 aI, .int .i64 aB, .slice P ps.length cp] 35)).heap.size (fun k => (wo.alloc (.cells #[.int .i64 aDo, .int .i64 aI, .int .i64 aB, .slice P ps.length cp] 35)).heap.size ≤ k ∧ k < w6.heap.size) (.slice (some ⟨gb, 1, none⟩) 63 (cb - 1)) bb) := ⟨hQb⟩
                              have HLB := Aside0.mk hlb
                              have HOKB : Aside0 (∀ k, (wo.alloc (.cells #[.int .i64 aDo, .int .i64 aI, .int .i64 aB, .slice P ps.length cp] 35)).heap.size ≤ k ∧ k < w6.heap.size → wo.heap.size ≤ k ∧ k < w6.heap.size) := ⟨fun k hk => ⟨by have := hk.1; rw [World.size_alloc] at this; omega, hk.2⟩⟩
                              clear hQb hlb hbb
                              go_wp2_with fail
                              refine (both_Write HBO6.out HBD6.out (fun k hk => hk.2) aI (some ⟨gb, 1, none⟩) 63 (cb - 1) bb HLB.out.symm (by have := (Kd.Q_reads' HQB.out).2.2; rw [HLB.out] at this; exact this) (fun ad e => by injection e with e; subst e; exact HOKB.out _ (HQB.out.1 gb rfl))).mono ?_
                              rintro e' w7 ⟨rfl, ho, hk, hb⟩
                              rw [(same_write HSM.out aI bb).1]
                              have HSM10 := Aside0.mk (same_write HSM.out aI bb).2
                              have HBO7 := Aside0.mk ho
                              have HAB7 := Aside0.mk (blk_kept HAB6.out hk (fun h => h ⟨Nat.le_refl _, HLA.out⟩))
                              have HQ7 := Aside0.mk (Kd.Q_kept HQB.out hk (fun k hk h => h (HOKB.out k hk)))
                              have HB7 := Aside0.mk (HB6.out.trans (hb.mono HLTD.out))
                              have HBS7 := Aside0.mk (blk_low HBS6.out hb HWB.out)
                              have HBD7 := Aside0.mk (Nat.le_trans HBD6.out hb.size)
                              have HLS7 : Aside0 ((wo.alloc (.cells #[.int .i64 aDo, .int .i64 aI, .int .i64 aB, .slice P ps.length cp] 35)).heap.size ≤ w7.heap.size) := ⟨Nat.le_trans HO6.out.size hb.size⟩
                              have HLE7 : Aside0 (w6.heap.size ≤ w7.heap.size) := ⟨hb.size⟩
                              have HCPY : Aside0 (∀ W, Below w7.heap.size w7 W → Calls Try.prog 20 #[.slice (some ⟨gb, 1, none⟩) 63 (cb - 1)] W fun e w' => ∃ v : Value, e = .returned v ∧ (Kd.int .u8).R 5 w' W.heap.size (fun _ => True) v bb ∧ Below W.heap.size W w') := ⟨fun W hW => by
                                have h := dk_copyB (some ⟨gb, 1, none⟩) (cb - 1) bb W (Kd.C_below (Kd.Q_reads' HQ7.out).2.2 hW) (by rw [HLB.out]; exact (Kd.Q_reads' HQ7.out).2.1) (by rw [HLB.out]; decide)
                                rw [HLB.out] at h
                                exact h⟩
                              have HRW : Aside0 (∀ W A8 c8, Below w7.heap.size w7 W → (Kd.int .u8).R 5 W w7.heap.size (fun _ => True) (.slice A8 bb.length c8) bb → Calls Try.prog 27 #[.pointer (some ⟨r, 0, none⟩), .int .i64 aI, .slice A8 bb.length c8] W fun e w' => e = .returned (.int .i64 (x.write aI bb).2) ∧ Both w' bd (fun k => wo.heap.size ≤ k ∧ k < w6.heap.size) d r (y.write aI bb).1 (x.write aI bb).1 ∧ Kept w7 w' (fun k => ¬ (wo.heap.size ≤ k ∧ k < w6.heap.size)) ∧ Below bd w7 w') := ⟨fun W A8 c8 hW hR => both_rWrite HBO7.out hW HBD7.out (fun k hk => Nat.lt_of_lt_of_le hk.2 HLE7.out) aI _ c8 A8 bb hR (by rw [HLB.out]; decide)⟩
                              have HCB : Aside0 (∀ W, Below w7.heap.size w7 W → W.cell? ⟨wo.heap.size, 1, none⟩ = some (.int .i64 aI)) := ⟨fun W hW => (blk_cell (blk_below HAB7.out hW) 1).trans rfl⟩
                              have HC9 : Aside0 (∀ W, Kept w7 W (fun k => ¬ (wo.heap.size ≤ k ∧ k < w6.heap.size)) → W.cell? ⟨wo.heap.size, 1, none⟩ = some (.int .i64 aI)) := ⟨fun W hW => (blk_cell (blk_kept HAB7.out hW (fun h => h ⟨Nat.le_refl _, HLA.out⟩)) 1).trans rfl⟩
                              clear ho hk hb ha1 ha2
                              go_upto_region 27 with (fail)
                              have HQ0 : Aside0 (Below w7.heap.size w7 w7.drew) := ⟨below_drew (Below.refl _ _)⟩
                              refine start_ (n := 7) (S := fun w' => w'.cell? ⟨wo.heap.size, 1, none⟩ = some (.int .i64 aI)) (ds := []) #[false, false, false, false, false, false, false] (by kernel_rfl) rfl rfl (HCB.out _ HQ0.out) (fun hHeld => ?_)
                              refine pure_ (i := 0) (N := some 122) (v := ?_) (a' := ?_) #[true, false, false, false, false, false, false] rfl rfl (by kernel_rfl) (fun _ _ _ h => h) (Or.inl ⟨by rfl, ?_⟩) ?_ ?_
                              rotate_left
                              · intro w'
                                go_simp
                                with_reducible rfl
                              rotate_left
                              · simp only [Act.put, List.setIfInBounds_toArray, List.set_cons_zero, List.set_cons_succ, i64_w, i32_w]
                                rfl
                              refine pure_ (i := 1) (N := some 123) (v := ?_) (a' := ?_) #[true, true, false, false, false, false, false] rfl rfl (by kernel_rfl) (fun _ _ _ h => h) (Or.inl ⟨by rfl, ?_⟩) ?_ ?_
                              rotate_left
                              · intro w'
                                go_simp
                                with_reducible rfl
                              rotate_left
                              · simp only [Act.put, List.setIfInBounds_toArray, List.set_cons_zero, List.set_cons_succ, i64_w, i32_w]
                                rfl
                              refine pure_ (i := 3) (N := some 125) (v := ?_) (a' := ?_) #[true, true, false, true, false, false, false] rfl rfl (by kernel_rfl) (fun _ _ _ h => h) (Or.inl ⟨by rfl, ?_⟩) ?_ ?_
                              rotate_left
                              · intro w'
                                go_simp
                                with_reducible rfl
                              rotate_left
                              · simp only [Act.put, List.setIfInBounds_toArray, List.set_cons_zero, List.set_cons_succ, i64_w, i32_w]
                                rfl
                              refine take_ (i := 2) (N := some 124) (v := ?_) (a' := ?_) #[true, true, true, true, false, false, false] rfl rfl (by kernel_rfl) (fun _ _ _ h => h) (Or.inl ⟨by rfl, ?_⟩) hHeld ?_ ?_
                              rotate_left
                              · intro w' s0
                                go_simp
                                with_reducible rfl
                              rotate_left
                              · simp only [Act.put, List.setIfInBounds_toArray, List.set_cons_zero, List.set_cons_succ, i64_w, i32_w]
                                rfl
                              refine one_ (i := 4) (N := some 126) #[true, true, true, true, true, false, false] rfl rfl (by kernel_rfl) (by decide) (fun K hK => ?_)
                              refine goes_ Try.func20 (by kernel_rfl) rfl #[.slice (some ⟨gb, 1, none⟩) 63 (cb - 1)] (by rfl) rfl rfl (by simp only [List.map_toArray, List.map_cons, List.map_nil]; rfl) ?_
                              with_reducible refine (HCPY.out _ HQ0.out).mono ?_
                              rintro e w8 ⟨v8, rfl, hR, hb⟩
                              refine ⟨_, rfl, ?_⟩
                              obtain ⟨A8, c8, rfl, _, _⟩ := Kd.R_reads hR
                              have HR8 := Aside0.mk (Kd.R_lower hR HQ0.out.size)
                              have HQ8 := Aside0.mk (below_step HQ0.out hb)
                              clear hR hb
                              refine hK.out _ _ (HCB.out _ HQ8.out) (fun hHeld => ?_)
                              clear hK K
                              refine norm_ (a' := ?_) ?_ ?_
                              rotate_left
                              · show Act.put _ (some 126) _ = _
                                simp only [Act.put, List.setIfInBounds_toArray, List.set_cons_zero, List.set_cons_succ, i64_w, i32_w]
                                rfl
                              refine one_ (i := 5) (N := some 127) #[true, true, true, true, true, true, false] rfl rfl (by kernel_rfl) (by decide) (fun K hK => ?_)
                              refine goes_ Try.func27 (by kernel_rfl) rfl #[.pointer (some ⟨r, 0, none⟩), .int .i64 aI, .slice A8 bb.length c8] (by rfl) rfl rfl (by simp only [List.map_toArray, List.map_cons, List.map_nil]; rfl) ?_
                              with_reducible refine (HRW.out _ _ _ HQ8.out HR8.out).mono ?_
                              rintro e w9 ⟨rfl, ho, hk, hb⟩
                              refine ⟨_, rfl, ?_⟩
                              have HBO9 := Aside0.mk ho
                              have HK9 := Aside0.mk hk
                              have HB9 := Aside0.mk (HB7.out.trans (hb.mono HLTD.out))
                              have HBD9 := Aside0.mk (Nat.le_trans HBD7.out hb.size)
                              have HBS9 := Aside0.mk (blk_low HBS7.out hb HWB.out)
                              have HLS9 := Aside0.mk (Nat.le_trans HLS7.out hb.size)
                              clear ho hk hb
                              refine hK.out _ _ (HC9.out _ HK9.out) (fun hHeld => ?_)
                              clear hK K
                              refine norm_ (a' := ?_) ?_ ?_
                              rotate_left
                              · show Act.put _ (some 127) _ = _
                                simp only [Act.put, List.setIfInBounds_toArray, List.set_cons_zero, List.set_cons_succ, i64_w, i32_w]
                                rfl
                              refine pure_ (i := 6) (N := some 18) (v := ?_) (a' := ?_) #[true, true, true, true, true, true, true] rfl rfl (by kernel_rfl) (fun _ _ _ h => h) (Or.inl ⟨by rfl, ?_⟩) ?_ ?_
                              rotate_left
                              · intro w'
                                go_simp
                                with_reducible rfl
                              rotate_left
                              · simp only [Act.put, List.setIfInBounds_toArray, List.set_cons_zero, List.set_cons_succ, i64_w, i32_w]
                                rfl
                              refine done_ (by kernel_rfl) ?_

                              go_wp2_with fail
                              refine (dk_spoil _ bb _ (wo.alloc (.cells #[.int .i64 aDo, .int .i64 aI, .int .i64 aB, .slice P ps.length cp] 35)).heap.size _ (Kd.Q_kept HQ7.out HK9.out (fun k hk h => h (HOKB.out k hk))) HLS9.out (by rw [HLB.out]; decide)).mono ?_
                              rintro e' w10 ⟨rfl, hk, hb⟩
                              have HBO10 := Aside0.mk ((HBO9.out.kept hk (fun k hk => HOKB.out k hk)).un)
                              have HB10 := Aside0.mk (HB9.out.trans (hb.mono HB5.out.size))
                              have HBS10 := Aside0.mk (blk_low HBS9.out hb HLW5.out)
                              have HBD10 := Aside0.mk (Nat.le_trans HBD9.out hb.size)
                              clear hk hb
                              go_wp2_with (first | (go_at_call 10; refine (dk_num _ _).mono ?_; rintro e' w' ⟨rfl, rfl⟩))
                              obtain ⟨okd, hdk⟩ := HBO10.out.dk
                              refine (dk_strokes d _ _ _ _ hdk).mono ?_
                              rintro e' w' ⟨rfl, rfl⟩
                              rw [HSM10.out.2.1]
                              go_wp2_with fail
                              obtain ⟨okr, hrk⟩ := HBO10.out.rk
                              refine (rk_strokes r _ _ _ _ hrk).mono ?_
                              rintro e' w' ⟨rfl, rfl⟩
                              go_wp2_with fail
                              refine (dk_count d _ _ _ _ hdk).mono ?_
                              rintro e' w' ⟨rfl, rfl⟩
                              rw [same_count HSM10.out]
                              go_wp2_with fail
                              refine (rk_count r _ _ _ _ hrk).mono ?_
                              rintro e' w' ⟨rfl, rfl⟩
                              clear hdk hrk
                              go_wp2
                              go_roundw
                              case rel => exact ⟨n + 1, _, _, by omega, by omega, by go_num, HSM10, HBO10, HBS10, HBD10, HB10⟩
                              case measure => simp [intOf]; omega
                            · have t7 : (aB.tmod 29 == 7) = false := by simpa using q7
                              clear q7
                              obtain ⟨bb, hbb⟩ : ∃ bb, bb = secOf aB := ⟨_, rfl⟩
                              have hlb : bb.length = 64 := by rw [hbb, length_secOf]
                              have hQb := HQ6.out
                              rw [← hbb] at hQb
                              have HQB : Aside0 ((Kd.int .u8).Q 5 w6 (wo.alloc (.cells #[.int .i64 aDo, .int .i64 aI, .int .i64 aB, .slice P ps.length cp] 35)).heap.size (fun k => (wo.alloc (.cells #[.int .i64 aDo, .int .i64 aI, .int .i64 aB, .slice P ps.length cp] 35)).heap.size ≤ k ∧ k < w6.heap.size) (.slice (some ⟨gb, 0, none⟩) 64 cb) bb) := ⟨hQb⟩
                              have HLB := Aside0.mk hlb
                              have HOKB : Aside0 (∀ k, (wo.alloc (.cells #[.int .i64 aDo, .int .i64 aI, .int .i64 aB, .slice P ps.length cp] 35)).heap.size ≤ k ∧ k < w6.heap.size → wo.heap.size ≤ k ∧ k < w6.heap.size) := ⟨fun k hk => ⟨by have := hk.1; rw [World.size_alloc] at this; omega, hk.2⟩⟩
                              clear hQb hlb hbb
                              go_wp2_with fail
                              refine (both_Write HBO6.out HBD6.out (fun k hk => hk.2) aI (some ⟨gb, 0, none⟩) 64 cb bb HLB.out.symm (by have := (Kd.Q_reads' HQB.out).2.2; rw [HLB.out] at this; exact this) (fun ad e => by injection e with e; subst e; exact HOKB.out _ (HQB.out.1 gb rfl))).mono ?_
                              rintro e' w7 ⟨rfl, ho, hk, hb⟩
                              rw [(same_write HSM.out aI bb).1]
                              have HSM10 := Aside0.mk (same_write HSM.out aI bb).2
                              have HBO7 := Aside0.mk ho
                              have HAB7 := Aside0.mk (blk_kept HAB6.out hk (fun h => h ⟨Nat.le_refl _, HLA.out⟩))
                              have HQ7 := Aside0.mk (Kd.Q_kept HQB.out hk (fun k hk h => h (HOKB.out k hk)))
                              have HB7 := Aside0.mk (HB6.out.trans (hb.mono HLTD.out))
                              have HBS7 := Aside0.mk (blk_low HBS6.out hb HWB.out)
                              have HBD7 := Aside0.mk (Nat.le_trans HBD6.out hb.size)
                              have HLS7 : Aside0 ((wo.alloc (.cells #[.int .i64 aDo, .int .i64 aI, .int .i64 aB, .slice P ps.length cp] 35)).heap.size ≤ w7.heap.size) := ⟨Nat.le_trans HO6.out.size hb.size⟩
                              have HLE7 : Aside0 (w6.heap.size ≤ w7.heap.size) := ⟨hb.size⟩
                              have HCPY : Aside0 (∀ W, Below w7.heap.size w7 W → Calls Try.prog 20 #[.slice (some ⟨gb, 0, none⟩) 64 cb] W fun e w' => ∃ v : Value, e = .returned v ∧ (Kd.int .u8).R 5 w' W.heap.size (fun _ => True) v bb ∧ Below W.heap.size W w') := ⟨fun W hW => by
                                have h := dk_copyB (some ⟨gb, 0, none⟩) cb bb W (Kd.C_below (Kd.Q_reads' HQ7.out).2.2 hW) (by rw [HLB.out]; exact (Kd.Q_reads' HQ7.out).2.1) (by rw [HLB.out]; decide)
                                rw [HLB.out] at h
                                exact h⟩
                              have HRW : Aside0 (∀ W A8 c8, Below w7.heap.size w7 W → (Kd.int .u8).R 5 W w7.heap.size (fun _ => True) (.slice A8 bb.length c8) bb → Calls Try.prog 27 #[.pointer (some ⟨r, 0, none⟩), .int .i64 aI, .slice A8 bb.length c8] W fun e w' => e = .returned (.int .i64 (x.write aI bb).2) ∧ Both w' bd (fun k => wo.heap.size ≤ k ∧ k < w6.heap.size) d r (y.write aI bb).1 (x.write aI bb).1 ∧ Kept w7 w' (fun k => ¬ (wo.heap.size ≤ k ∧ k < w6.heap.size)) ∧ Below bd w7 w') := ⟨fun W A8 c8 hW hR => both_rWrite HBO7.out hW HBD7.out (fun k hk => Nat.lt_of_lt_of_le hk.2 HLE7.out) aI _ c8 A8 bb hR (by rw [HLB.out]; decide)⟩
                              have HCB : Aside0 (∀ W, Below w7.heap.size w7 W → W.cell? ⟨wo.heap.size, 1, none⟩ = some (.int .i64 aI)) := ⟨fun W hW => (blk_cell (blk_below HAB7.out hW) 1).trans rfl⟩
                              have HC9 : Aside0 (∀ W, Kept w7 W (fun k => ¬ (wo.heap.size ≤ k ∧ k < w6.heap.size)) → W.cell? ⟨wo.heap.size, 1, none⟩ = some (.int .i64 aI)) := ⟨fun W hW => (blk_cell (blk_kept HAB7.out hW (fun h => h ⟨Nat.le_refl _, HLA.out⟩)) 1).trans rfl⟩
                              clear ho hk hb ha1 ha2
                              go_upto_region 27 with (fail)
                              have HQ0 : Aside0 (Below w7.heap.size w7 w7.drew) := ⟨below_drew (Below.refl _ _)⟩
                              refine start_ (n := 7) (S := fun w' => w'.cell? ⟨wo.heap.size, 1, none⟩ = some (.int .i64 aI)) (ds := []) #[false, false, false, false, false, false, false] (by kernel_rfl) rfl rfl (HCB.out _ HQ0.out) (fun hHeld => ?_)
                              refine pure_ (i := 0) (N := some 122) (v := ?_) (a' := ?_) #[true, false, false, false, false, false, false] rfl rfl (by kernel_rfl) (fun _ _ _ h => h) (Or.inl ⟨by rfl, ?_⟩) ?_ ?_
                              rotate_left
                              · intro w'
                                go_simp
                                with_reducible rfl
                              rotate_left
                              · simp only [Act.put, List.setIfInBounds_toArray, List.set_cons_zero, List.set_cons_succ, i64_w, i32_w]
                                rfl
                              refine pure_ (i := 1) (N := some 123) (v := ?_) (a' := ?_) #[true, true, false, false, false, false, false] rfl rfl (by kernel_rfl) (fun _ _ _ h => h) (Or.inl ⟨by rfl, ?_⟩) ?_ ?_
                              rotate_left
                              · intro w'
                                go_simp
                                with_reducible rfl
                              rotate_left
                              · simp only [Act.put, List.setIfInBounds_toArray, List.set_cons_zero, List.set_cons_succ, i64_w, i32_w]
                                rfl
                              refine pure_ (i := 3) (N := some 125) (v := ?_) (a' := ?_) #[true, true, false, true, false, false, false] rfl rfl (by kernel_rfl) (fun _ _ _ h => h) (Or.inl ⟨by rfl, ?_⟩) ?_ ?_
                              rotate_left
                              · intro w'
                                go_simp
                                with_reducible rfl
                              rotate_left
                              · simp only [Act.put, List.setIfInBounds_toArray, List.set_cons_zero, List.set_cons_succ, i64_w, i32_w]
                                rfl
                              refine take_ (i := 2) (N := some 124) (v := ?_) (a' := ?_) #[true, true, true, true, false, false, false] rfl rfl (by kernel_rfl) (fun _ _ _ h => h) (Or.inl ⟨by rfl, ?_⟩) hHeld ?_ ?_
                              rotate_left
                              · intro w' s0
                                go_simp
                                with_reducible rfl
                              rotate_left
                              · simp only [Act.put, List.setIfInBounds_toArray, List.set_cons_zero, List.set_cons_succ, i64_w, i32_w]
                                rfl
                              refine one_ (i := 4) (N := some 126) #[true, true, true, true, true, false, false] rfl rfl (by kernel_rfl) (by decide) (fun K hK => ?_)
                              refine goes_ Try.func20 (by kernel_rfl) rfl #[.slice (some ⟨gb, 0, none⟩) 64 cb] (by rfl) rfl rfl (by simp only [List.map_toArray, List.map_cons, List.map_nil]; rfl) ?_
                              with_reducible refine (HCPY.out _ HQ0.out).mono ?_
                              rintro e w8 ⟨v8, rfl, hR, hb⟩
                              refine ⟨_, rfl, ?_⟩
                              obtain ⟨A8, c8, rfl, _, _⟩ := Kd.R_reads hR
                              have HR8 := Aside0.mk (Kd.R_lower hR HQ0.out.size)
                              have HQ8 := Aside0.mk (below_step HQ0.out hb)
                              clear hR hb
                              refine hK.out _ _ (HCB.out _ HQ8.out) (fun hHeld => ?_)
                              clear hK K
                              refine norm_ (a' := ?_) ?_ ?_
                              rotate_left
                              · show Act.put _ (some 126) _ = _
                                simp only [Act.put, List.setIfInBounds_toArray, List.set_cons_zero, List.set_cons_succ, i64_w, i32_w]
                                rfl
                              refine one_ (i := 5) (N := some 127) #[true, true, true, true, true, true, false] rfl rfl (by kernel_rfl) (by decide) (fun K hK => ?_)
                              refine goes_ Try.func27 (by kernel_rfl) rfl #[.pointer (some ⟨r, 0, none⟩), .int .i64 aI, .slice A8 bb.length c8] (by rfl) rfl rfl (by simp only [List.map_toArray, List.map_cons, List.map_nil]; rfl) ?_
                              with_reducible refine (HRW.out _ _ _ HQ8.out HR8.out).mono ?_
                              rintro e w9 ⟨rfl, ho, hk, hb⟩
                              refine ⟨_, rfl, ?_⟩
                              have HBO9 := Aside0.mk ho
                              have HK9 := Aside0.mk hk
                              have HB9 := Aside0.mk (HB7.out.trans (hb.mono HLTD.out))
                              have HBD9 := Aside0.mk (Nat.le_trans HBD7.out hb.size)
                              have HBS9 := Aside0.mk (blk_low HBS7.out hb HWB.out)
                              have HLS9 := Aside0.mk (Nat.le_trans HLS7.out hb.size)
                              clear ho hk hb
                              refine hK.out _ _ (HC9.out _ HK9.out) (fun hHeld => ?_)
                              clear hK K
                              refine norm_ (a' := ?_) ?_ ?_
                              rotate_left
                              · show Act.put _ (some 127) _ = _
                                simp only [Act.put, List.setIfInBounds_toArray, List.set_cons_zero, List.set_cons_succ, i64_w, i32_w]
                                rfl
                              refine pure_ (i := 6) (N := some 18) (v := ?_) (a' := ?_) #[true, true, true, true, true, true, true] rfl rfl (by kernel_rfl) (fun _ _ _ h => h) (Or.inl ⟨by rfl, ?_⟩) ?_ ?_
                              rotate_left
                              · intro w'
                                go_simp
                                with_reducible rfl
                              rotate_left
                              · simp only [Act.put, List.setIfInBounds_toArray, List.set_cons_zero, List.set_cons_succ, i64_w, i32_w]
                                rfl
                              refine done_ (by kernel_rfl) ?_

                              go_wp2_with fail
                              refine (dk_spoil _ bb _ (wo.alloc (.cells #[.int .i64 aDo, .int .i64 aI, .int .i64 aB, .slice P ps.length cp] 35)).heap.size _ (Kd.Q_kept HQ7.out HK9.out (fun k hk h => h (HOKB.out k hk))) HLS9.out (by rw [HLB.out]; decide)).mono ?_
                              rintro e' w10 ⟨rfl, hk, hb⟩
                              have HBO10 := Aside0.mk ((HBO9.out.kept hk (fun k hk => HOKB.out k hk)).un)
                              have HB10 := Aside0.mk (HB9.out.trans (hb.mono HB5.out.size))
                              have HBS10 := Aside0.mk (blk_low HBS9.out hb HLW5.out)
                              have HBD10 := Aside0.mk (Nat.le_trans HBD9.out hb.size)
                              clear hk hb
                              go_wp2_with (first | (go_at_call 10; refine (dk_num _ _).mono ?_; rintro e' w' ⟨rfl, rfl⟩))
                              obtain ⟨okd, hdk⟩ := HBO10.out.dk
                              refine (dk_strokes d _ _ _ _ hdk).mono ?_
                              rintro e' w' ⟨rfl, rfl⟩
                              rw [HSM10.out.2.1]
                              go_wp2_with fail
                              obtain ⟨okr, hrk⟩ := HBO10.out.rk
                              refine (rk_strokes r _ _ _ _ hrk).mono ?_
                              rintro e' w' ⟨rfl, rfl⟩
                              go_wp2_with fail
                              refine (dk_count d _ _ _ _ hdk).mono ?_
                              rintro e' w' ⟨rfl, rfl⟩
                              rw [same_count HSM10.out]
                              go_wp2_with fail
                              refine (rk_count r _ _ _ _ hrk).mono ?_
                              rintro e' w' ⟨rfl, rfl⟩
                              clear hdk hrk
                              go_wp2
                              go_roundw
                              case rel => exact ⟨n + 1, _, _, by omega, by omega, by go_num, HSM10, HBO10, HBS10, HBD10, HB10⟩
                              case measure => simp [intOf]; omega
                  · have hge : decide (n < 40) = false := decide_eq_false h4
                    go_wp2_with (first | (go_at_call 17; refine (dk_wakes _).mono ?_; rintro e' w9 ⟨rfl, hb⟩; have HX := Aside0.mk (below_step HB.out hb); clear hb))
                    go_ret
                    exact ⟨rfl, HX.out⟩
                · have hge : decide (n < l2.length) = false := decide_eq_false hlt
                  go_wp2_with (first | (go_at_call 17; refine (dk_wakes _).mono ?_; rintro e' w9 ⟨rfl, hb⟩; have HX := Aside0.mk (below_step HB.out hb); clear hb))
                  go_ret
                  exact ⟨rfl, HX.out⟩
            · have HGD := Aside0.mk hgd
              have hrt : rM = false := by
                cases h : rM with
                | false => rfl
                | true => exact absurd (HMI.out.1 h) hgd
              subst hrt
              clear hgd
              go_wp2_with fail
              refine (dk_spoil _ q _ wr.heap.size _ HQ4.out (Nat.le_trans HSZ3.out HSZ4.out) (by omega)).mono ?_
              rintro e' w5 ⟨rfl, hk, hb⟩
              have HS5 := Aside0.mk (blk_low HS4.out hb (by have := HBLK.out; omega))
              have HI5 := Aside0.mk (C_keptB HI4.out hk (fun ad e hs => by injection e with e; subst e; have h1 : wr.heap.size ≤ w.heap.size + 1 := hs.1; have := HBLK.out; omega))
              have HB5 := Aside0.mk (HB4.out.trans (hb.mono HB.out.size))
              have hs1 := (blk_cell HS5.out 1).trans rfl
              clear hk hb
              go_wp2_with fail
              refine (gangwayref11_May.calls kM (some ⟨w.heap.size + 1, 0, none⟩) q.length q A1 c1 l1 false _ HI5.out (Nat.le_refl _) (Kd.C_below HT.out HB5.out) HTC.out HMAY.out).mono ?_
              rintro e' w6 ⟨rfl, ⟨nd, rfl⟩⟩
              go_wp2_with (first | (go_at_call 10; refine (dk_num _ _).mono ?_; rintro e' w' ⟨rfl, rfl⟩) | (go_at_call 17; refine (dk_wakes _).mono ?_; rintro e' w9 ⟨rfl, hb⟩; have HX := Aside0.mk (below_step (pw_below_drewN HB5.out nd) hb); clear hb))
              go_ret
              exact ⟨rfl, HX.out⟩

end Go.Proofs.Ytpkhpfgojhojaaa.PDk

namespace Go.Proofs.Ytpkhpfgojhojaaa.PDk
open Go.RowKit Go.Proofs.YtpkhpfgojhojaaaW.PrintWords Go.Proofs.YtpkhpfgojhojaaaW.PrintLast Go.Proofs.YtpkhpfgojhojaaaW.PrintMore
attribute [local go_sem] max2_int min2_int max_two min_two max_three min_three max_four min_four
set_option linter.unusedVariables false
set_option linter.unusedSimpArgs false
-- IMPORT: Derived.Test.@N@WOwn
-- IMPORT: Derived.Test.@N@OpensDk
-- IMPORT: Derived.Test.@N@DLawexact
theorem diskExact_row (cs : Array Value) (x : Int × List S45 × List (Int × Int × Int × List Int)) (w : World) (h : ok25 x) (hk : (Kd.pair (Kd.int .i64) (Kd.pair (Kd.slice 45 k45) (Kd.slice 35 (Kd.pair (Kd.int .i64) (Kd.pair (Kd.int .i64) (Kd.pair (Kd.int .i64) (Kd.slice 3 (Kd.int .i64)))))))).K w x cs.toList) :
    Calls Try.prog 5 #[.agg cs] w fun e w' => e = .returned (.bool true) ∧ Below w.heap.size w w' := by
  obtain ⟨a0, l1, l2⟩ := x
  obtain ⟨q1, q2, e, h1, q3, q4, rfl, ⟨A1, c1, rfl, hl1, hC1⟩, ⟨A2, c2, rfl, hl2, hC2⟩⟩ := hk
  have h1' : q1 = [.int .i64 a0] := h1
  subst h1'
  obtain rfl : cs = #[.int .i64 a0, .slice A1 l1.length c1, .slice A2 l2.length c2] := Array.ext' e
  exact gangwaylaw11_DiskExact.walk a0 A1 A2 c1 c2 l1 l2 w hC1 hl1 (fun t ht => h.2.1.2.2 t ht) hC2

end Go.Proofs.Ytpkhpfgojhojaaa.PDk
