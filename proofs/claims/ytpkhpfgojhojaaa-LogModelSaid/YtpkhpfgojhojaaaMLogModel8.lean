/- Parts of one proof, merged by merge.py of this repo: walks over the given program and plain facts, used by the law of the file YtpkhpfgojhojaaaCLogModel. -/
import Derived.Test.YtpkhpfgojhojaaaMLogModel6
import Derived.Test.YtpkhpfgojhojaaaMLogModel3
import Derived.Test.YtpkhpfgojhojaaaMLogModel5
import Derived.Test.YtpkhpfgojhojaaaMLogModel4
import Derived.Test.YtpkhpfgojhojaaaMLogModel7
import Derived.Test.YtpkhpfgojhojaaaMLogModel2
namespace Go.Proofs.Ytpkhpfgojhojaaa.PLg
open Go.RowKit Go.Proofs.YtpkhpfgojhojaaaW.PrintWords Go.Proofs.YtpkhpfgojhojaaaW.PrintLast Go.Proofs.YtpkhpfgojhojaaaW.PrintMore
attribute [local go_sem] max2_int min2_int max_two min_two max_three min_three max_four min_four
set_option linter.unusedVariables false
set_option linter.unusedSimpArgs false
-- FUNCTION: gangway/gangwaylaw12.LogModel
-- IMPORT: Derived.Test.@N@WOwn
-- IMPORT: Derived.Test.@N@DLspoil
set_option maxHeartbeats 32000000 in
set_option maxRecDepth 100000 in
theorem gangwaylaw12_LogModel.walk (a0 : Int) (A1 A2 : Option Addr) (c1 c2 : Nat) (l1 : List S45) (l2 : List S65) (w : World) (h1 : Kd.C k45 w A1 l1.length l1) (hc1 : l1.length ≤ c1) (h2 : Kd.C k65 w A2 l2.length l2) (hc2 : l2.length ≤ c2) (hw2 : ∀ x ∈ l2, x.f2.length ≤ 140737488351232 ∧ x.f3.length ≤ 140737488351232) :
    Calls Try.prog 7 #[.agg #[.int .i64 a0, .slice A1 l1.length c1, .slice A2 l2.length c2]] w fun e w' => e = .returned (.bool true) ∧ Below w.heap.size w w' := by
  have H1 := Aside0.mk h1
  have H2 := Aside0.mk h2
  have HC1 := Aside0.mk hc1
  have HC2 := Aside0.mk hc2
  obtain ⟨k, hv, hhv⟩ := heavy_ex a0 l1 l2
  have HHE := Aside0.mk hhv
  have hmax := h2.2.1
  have hus := Try.underlying60
  have hua := Try.underlying65
  have HNH : Aside0 (hv = false → ∀ j, j < 25 → j < l2.length → (l2.getD j z65).f2.length ≤ 8000) := ⟨fun h => not_heavy hw2 (h ▸ hhv)⟩
  have HB0 := Aside0.mk (below_alloc (Below.refl w.heap.size w) (.cells #[.int .i64 a0, .slice A1 l1.length c1, .slice A2 l2.length c2] 60))
  have HS0 := Aside0.mk (blk_new w (.cells #[.int .i64 a0, .slice A1 l1.length c1, .slice A2 l2.length c2] 60))
  clear h1 h2 hc1 hc2 hhv hw2
  cases hv
  all_goals
    go_enter Try.func7, Try.ntmps7
    go_wp2_with fail
    refine (gangwaylaw12_heavy.calls k a0 A1 c1 l1 A2 c2 l2 _ _ (Kd.C_alloc H1.out _) HC1.out (Kd.C_alloc H2.out _) HC2.out HHE.out).mono ?_
    rintro e' w0 ⟨rfl, hb⟩
    have HBa := Aside0.mk (below_step HB0.out hb)
    have HSa := Aside0.mk (blk_below HS0.out hb)
    clear hb HB0 HS0
  · have HHV := Aside0.mk (HNH.out (by first | rfl | trivial))
    have hs0 := (blk_cell HSa.out 0).trans rfl
    go_wp2_with fail
    obtain ⟨m0, hm0, hmw⟩ := within_n a0 300 (by decide) (by decide)
    refine (lg_withinF a0 300 m0 hmw _).mono ?_
    rintro e' w1 ⟨rfl, hb⟩
    have HB1 := Aside0.mk (below_step HBa.out hb)
    have HS1 := Aside0.mk (blk_below HSa.out hb)
    obtain ⟨m, hm⟩ : ∃ m, m = 40 + m0 := ⟨_, rfl⟩
    have HMM : Aside0 (40 ≤ m ∧ m < 340) := ⟨by omega⟩
    have HLS : Aside0 (SizeOk (m * 64)) := ⟨size_model m HMM.out.1 HMM.out.2⟩
    have hw40 : wrap64 (40 + (m0 : Int)) = (m : Int) := by rw [w64 _ (by omega)]; omega
    clear hb hs0 hmw hm hm0
    go_wp2_with fail
    rw [hw40]
    refine (lg_Disk m (by have := HMM.out; omega) (by have := HMM.out; omega) none 0 0 [] _ (Kd.C_nil _ _) (fun _ h => by cases h) (fun _ h => by cases h)).mono ?_
    rintro e' w2 ⟨d, rfl, hd, hb⟩
    have HD2 := Aside0.mk (hd.bound.mono (ok' := fun k => w1.heap.size ≤ k ∧ k < w2.heap.size) (fun k hk => ⟨hk.2.1, hk.2.2⟩))
    have HW : Aside0 (w.heap.size < w1.heap.size) := ⟨blk_lt HS1.out⟩
    have HN2 := Aside0.mk hb.size
    have HB2 := Aside0.mk (below_step HB1.out hb)
    have HS2 := Aside0.mk (blk_below HS1.out hb)
    clear hd hb hw40
    obtain ⟨nb, hnb⟩ : ∃ nb, nb = w1.heap.size := ⟨_, rfl⟩
    rw [← hnb] at HD2 HW HN2
    have HMS := Aside0.mk (model_start m (by have := HMM.out; omega))
    have HE0 : Aside0 (128 ≤ (Dk.new (List.replicate (m * 64) (0 : Int)) []).E.length) := ⟨by show 128 ≤ (List.replicate (m * 64) (0 : Int)).length; rw [List.length_replicate]; have := HMM.out; omega⟩
    clear hnb
    go_wp2_with fail
    refine (lg_Open d _ nb _ (Dk.new (List.replicate (m * 64) 0) []) 0 [] (layP []) HD2.out HN2.out rfl HE0.out (holds_opens HMS.out.1.2.2.2.1) (lays [] (by decide))).mono ?_
    rintro e' w3 ⟨g, NN, v, rfl, hlg, hN, hN2, hS, hb⟩
    obtain ⟨Av, cv, rfl⟩ := Kd.S_slice hS
    obtain ⟨y0, hy0⟩ : ∃ y0, y0 = Dk.new (List.replicate (m * 64) 0) [] := ⟨_, rfl⟩
    have hFS := HMS.out
    rw [← hy0] at hlg hFS
    have HF0 := Aside0.mk hFS
    have HL3 := Aside0.mk hlg.bound
    have HN3 := Aside0.mk (Nat.le_trans HN2.out hb.size)
    have HB3 := Aside0.mk (below_step HB2.out hb)
    have HS3 := Aside0.mk (blk_below HS2.out hb)
    clear hlg hN hN2 hS hb hFS hy0 HMS HE0 HD2
    go_wp2_with (first | (go_at_call 35; refine (lg_num _ _).mono ?_; rintro e' w' ⟨rfl, rfl⟩))
    obtain ⟨w4, hw4⟩ : ∃ W, W = w3.alloc (.cells #[.slice none 0 0] 63) := ⟨_, rfl⟩
    have hb : Below w3.heap.size w3 w4 := hw4 ▸ below_alloc (Below.refl _ _) _
    have HC4 := Aside0.mk (R_one (e := 63) (okp := fun _ => False) (ok := fun k => k = w3.heap.size) (Kd.slice 30 (Kd.slice 5 (Kd.int .u8))) rfl (p := []) (Kd.M_row (Kd.R_nil (Kd.slice 5 (Kd.int .u8)) 30 w3 nb (fun _ => False))) (fun _ h => h.elim) rfl HN3.out)
    have HL4' := Aside0.mk (HL3.out.below hb)
    have HN4 := Aside0.mk (Nat.le_trans HN3.out hb.size)
    have HB4 := Aside0.mk (below_step HB3.out hb)
    have HS4 := Aside0.mk (blk_below HS3.out hb)
    rw [← hw4] at HC4 ⊢
    obtain ⟨P, hP⟩ : ∃ Q : Nat → Prop, Q = fun k => (((nb ≤ k ∧ k < w2.heap.size) ∨ w2.heap.size ≤ k) ∧ k < NN) ∧ k < w3.heap.size := ⟨_, rfl⟩
    have HL4 : Aside0 (LgAt w4 nb P g d ⟨y0, 0, [], true⟩) := ⟨by rw [hP]; exact HL4'.out⟩
    have HP4 : Aside0 (∀ k, P k → k < w4.heap.size) := ⟨fun k hk => by rw [hP] at hk; have := hk.2; have := hb.size; omega⟩
    have HC5 := Aside0.mk (Kd.R_mono HC4.out (ok' := fun k => ¬ P k) (fun k hk h => by
      subst hk
      rw [hP] at h
      have := h.2
      omega))
    clear hb hw4 hP HL4' HC4
    go_loopw [4, 5, 8, 9, 10] (fun v4 v5 v8 v9 v10 w' => ∃ (i d g : Nat) (P : Nat → Prop) (y : Dk) (nr : Int) (rs0 rs : List (List Int)) (fr : Bool) (cans : List (List (List Int))), i ≤ 25 ∧ i ≤ l2.length ∧ v4 = .pointer (some ⟨d, 0, none⟩) ∧ v5 = .pointer (some ⟨g, 0, none⟩) ∧ v10 = .int .i64 i ∧ Aside0 (LgAt w' nb P g d ⟨y, nr, rs, fr⟩) ∧ Aside0 (∀ k, P k → k < w'.heap.size) ∧ Aside0 (Kd.R (Kd.slice 5 (Kd.int .u8)) 30 w' nb (fun k => ¬ P k) v8 rs) ∧ Aside0 (Kd.R (Kd.slice 30 (Kd.slice 5 (Kd.int .u8))) 63 w' nb (fun k => ¬ P k) v9 cans) ∧ Aside0 (FineM (m * 64) y nr rs0 rs fr cans) ∧ Aside0 (cans.length ≤ i + 1) ∧ Aside0 (nr ≤ (i : Int)) ∧ Aside0 (w'.heap[w.heap.size]? = some (.cells #[.int .i64 a0, .slice A1 l1.length c1, .slice A2 l2.length c2] 60 (0, 0))) ∧ Aside0 (Below w.heap.size w w') ∧ Aside0 (nb ≤ w'.heap.size)) (fun _ _ _ _ v10 _ => 25 - (intOf v10).toNat)
    case atStart => exact ⟨0, d, g, P, y0, 0, [], [], true, [[]], Nat.zero_le _, Nat.zero_le _, rfl, rfl, rfl, HL4, HP4, ⟨Kd.R_nil _ _ _ _ _⟩, HC5, HF0, ⟨Nat.le_refl _⟩, ⟨Int.le_refl _⟩, HS4, HB4, HN4⟩
    case round =>
      clear HL4 HP4 HF0 HC5 HB4 HS4 HN4 HL3 HN3 HB3 HS3 HB2 HS2 HN2
      obtain ⟨i, d, g, P, y, nr, rs0, rs, fr, cans, h25', hi, rfl, rfl, rfl, HL0, HP0, HV0, HC0, HF, HCL, HNR, HS0, HB0, HN0⟩ := hrel
      have hs2 := (blk_cell HS0.out 2).trans rfl
      obtain ⟨An, cn, rfl⟩ := Kd.R_slice HV0.out
      obtain ⟨Ac, cc, rfl⟩ := Kd.R_slice HC0.out
      by_cases hlt : i < l2.length
      · by_cases h25 : i < 25
        · obtain ⟨ad, AR, cR, P0, cp, rfl, hx0, hx1, hx2, hRc, hRC, hx3, hpc, hpC⟩ := act12_cells H2.out HB0.out i hlt
          have h80 := HHV.out i h25 hlt
          obtain ⟨⟨f0, f1, R, ps⟩, hact⟩ : ∃ q, q = l2.getD i z65 := ⟨_, rfl⟩
          rw [← hact] at hx0 hx1 hx2 hx3 hpc hpC hRc hRC h80
          clear hact
          simp only at hx0 hx1 hx2 hx3 hpc hpC hRc hRC h80
          have H80 := Aside0.mk h80
          have HI : Aside0 (i < 25 ∧ i < l2.length) := ⟨⟨h25, hlt⟩⟩
          have HLL0 : Aside0 (layLen rs ≤ 11000) := ⟨by have := HF.out.1.2.2.2.2.2; have := HMM.out; unfold areaOf at *; omega⟩
          have HRL : Aside0 (rs.length ≤ 2000) := ⟨by have := layLen_count rs; have := HLL0.out; omega⟩
          have HPG : Aside0 (P g) := ⟨by obtain ⟨_, _, _, _, _, _, _, _, _, ho, _⟩ := HL0.out; exact ho⟩
          have HPC := Aside0.mk hpc
          have HPP0 := Aside0.mk hpC
          have HRCC := Aside0.mk hRc
          have HRC0 := Aside0.mk hRC
          have hb : Below wr.heap.size wr (wr.alloc (.cells #[.int .i64 f0, .int .i64 f1, .slice AR R.length cR, .slice P0 ps.length cp] 65)) := below_alloc (Below.refl _ _) _
          have HL5 := Aside0.mk (HL0.out.below hb)
          have HV5 := Aside0.mk (Kd.R_below HV0.out hb)
          have HC5 := Aside0.mk (Kd.R_below HC0.out hb)
          have HS5 := Aside0.mk (blk_below HS0.out hb)
          have HB5 := Aside0.mk (below_step HB0.out hb)
          have HN5 := Aside0.mk (Nat.le_trans HN0.out hb.size)
          have HP5 : Aside0 (∀ k, P k → k < (wr.alloc (.cells #[.int .i64 f0, .int .i64 f1, .slice AR R.length cR, .slice P0 ps.length cp] 65)).heap.size) := ⟨fun k hk => Nat.lt_of_lt_of_le (HP0.out k hk) hb.size⟩
          have HA5 := Aside0.mk (blk_new wr (.cells #[.int .i64 f0, .int .i64 f1, .slice AR R.length cR, .slice P0 ps.length cp] 65))
          clear hRc hRC hpc hpC h80 hb
          have t25 : decide ((i : Int) < 25) = true := decide_eq_true (by omega)
          go_wp2_with fail
          obtain ⟨r8, hr8, hrw⟩ := within_n f0 8 (by decide) (by decide)
          have HRW := Aside0.mk hrw
          refine (lg_withinF f0 8 r8 hrw _).mono ?_
          rintro e' w6 ⟨rfl, hb⟩
          have HR8 := Aside0.mk hr8
          clear hrw t25
          have HL6 := Aside0.mk (HL5.out.below hb)
          have HV6 := Aside0.mk (Kd.R_below HV5.out hb)
          have HC6 := Aside0.mk (Kd.R_below HC5.out hb)
          have HS6 := Aside0.mk (blk_below HS5.out hb)
          have HA6 := Aside0.mk (blk_below HA5.out hb)
          have HB6 := Aside0.mk (below_step HB5.out hb)
          have HN6 := Aside0.mk (Nat.le_trans HN5.out hb.size)
          have HP6 : Aside0 (∀ k, P k → k < w6.heap.size) := ⟨fun k hk => Nat.lt_of_lt_of_le (HP5.out k hk) hb.size⟩
          obtain ⟨_, hvc, hvC⟩ := Kd.R_reads' HV6.out
          have HVC := Aside0.mk hvc
          have HVV := Aside0.mk hvC
          clear hb hx0 hx1 hx2 hx3 hs2 hvc hvC
          have ha2 := (blk_cell HA6.out 2).trans rfl
          by_cases q4 : r8 = 4
          · subst q4
            obtain ⟨kr, jr, hjr, hrp⟩ := replaced_f rs f0 f1 R ps (by have := HLL0.out; omega) (by have := H80.out; omega)
            obtain ⟨q, hq⟩ : ∃ q, q = rs.drop jr ++ [R] := ⟨_, rfl⟩
            have hql : layLen q ≤ 20000 := by rw [hq, layLen_snoc]; have := layLen_drop_le rs jr; have := HLL0.out; have := H80.out; omega
            rw [← hq] at hrp
            have HRP := Aside0.mk hrp
            have HQL := Aside0.mk hql
            clear hq hql hrp hjr
            have ha0 := (blk_cell HA6.out 0).trans rfl
            have ha1 := (blk_cell HA6.out 1).trans rfl
            have ha3 := (blk_cell HA6.out 3).trans rfl
            go_wp2_with fail
            refine (gangwaylaw12_replaced.calls kr An cn rs f0 f1 AR cR R P0 cp ps q _ HVV.out HVC.out (Kd.C_below HRC0.out HB6.out) HRCC.out (Kd.C_below HPP0.out HB6.out) HPC.out HRP.out).mono ?_
            rintro e' w13 ⟨v, rfl, hS, hb⟩
            obtain ⟨A13, c13, rfl⟩ := Kd.S_slice hS
            have HX13 := Aside0.mk (Kd.R_mono (Kd.R_lower (Kd.R_bound (Kd.S_R hS)) HN6.out) (ok' := fun k => ¬ P k) (fun k hk hp => by have := HP6.out k hp; have := hk.2.1; omega))
            have HL13 := Aside0.mk (HL6.out.below hb)
            have HV13 := Aside0.mk (Kd.R_below HV6.out hb)
            have HC13 := Aside0.mk (Kd.R_below HC6.out hb)
            have HS13 := Aside0.mk (blk_below HS6.out hb)
            have HB13 := Aside0.mk (below_step HB6.out hb)
            have HN13 := Aside0.mk (Nat.le_trans HN6.out hb.size)
            have HP13 : Aside0 (∀ k, P k → k < w13.heap.size) := ⟨fun k hk => Nat.lt_of_lt_of_le (HP6.out k hk) hb.size⟩
            obtain ⟨_, hxc, hxC⟩ := Kd.R_reads' HX13.out
            have HXC := Aside0.mk hxc
            have HXV := Aside0.mk hxC
            clear hS hb ha0 ha1 ha2 ha3 hxc hxC HVV
            go_wp2_with fail
            refine (lg_copyCells A13 c13 q _ HXV.out HXC.out (by have := HQL.out; omega)).mono ?_
            rintro e' w14 ⟨v, rfl, hS, hb⟩
            obtain ⟨A14, c14, rfl, hc14, hC14⟩ := Kd.S_reads hS
            have HD14 := Aside0.mk hC14
            have HE14 := Aside0.mk hc14
            have HL14 := Aside0.mk (HL13.out.below hb)
            have HV14 := Aside0.mk (Kd.R_below HV13.out hb)
            have HC14 := Aside0.mk (Kd.R_below HC13.out hb)
            have HX14 := Aside0.mk (Kd.R_below HX13.out hb)
            have HS14 := Aside0.mk (blk_below HS13.out hb)
            have HB14 := Aside0.mk (below_step HB13.out hb)
            have HN14 := Aside0.mk (Nat.le_trans HN13.out hb.size)
            have HP14 : Aside0 (∀ k, P k → k < w14.heap.size) := ⟨fun k hk => Nat.lt_of_lt_of_le (HP13.out k hk) hb.size⟩
            clear hS hb hc14 hC14
            go_wp2_with fail
            refine (lg_ReplaceG (m * 64) HLS.out g A14 c14 q _ nb P d y nr rs0 rs fr HL14.out HN14.out HF.out.1 HD14.out HE14.out (by have := HQL.out; omega)).mono ?_
            rintro e' w15 ⟨cd, rs', fr', rfl, hlg, hk, hb, hcase⟩
            obtain ⟨P2, hP2⟩ : ∃ Q : Nat → Prop, Q = fun k => (P k ∨ w14.heap.size ≤ k) ∧ k < w15.heap.size := ⟨_, rfl⟩
            have HL15 := Aside0.mk hlg.bound
            rw [← hP2] at HL15
            have HV15 := Aside0.mk (Kd.R_mono (Kd.R_kept (Kd.R_mono (Kd.R_bound HV14.out) (ok' := fun k => ¬ P k ∧ k < w14.heap.size) (fun k hk => ⟨hk.1, hk.2.2.1⟩)) hk (fun k hk => (fun he => hk.1 (by rw [show k = g from he]; exact HPG.out)))) (ok' := fun k => ¬ P2 k) (fun k hk h2 => by rw [hP2] at h2; exact h2.1.elim hk.1 (fun h => by have := hk.2; omega)))
            have HC15 := Aside0.mk (Kd.R_mono (Kd.R_kept (Kd.R_mono (Kd.R_bound HC14.out) (ok' := fun k => ¬ P k ∧ k < w14.heap.size) (fun k hk => ⟨hk.1, hk.2.2.1⟩)) hk (fun k hk => (fun he => hk.1 (by rw [show k = g from he]; exact HPG.out)))) (ok' := fun k => ¬ P2 k) (fun k hk h2 => by rw [hP2] at h2; exact h2.1.elim hk.1 (fun h => by have := hk.2; omega)))
            have HX15 := Aside0.mk (Kd.R_mono (Kd.R_kept (Kd.R_mono (Kd.R_bound HX14.out) (ok' := fun k => ¬ P k ∧ k < w14.heap.size) (fun k hk => ⟨hk.1, hk.2.2.1⟩)) hk (fun k hk => (fun he => hk.1 (by rw [show k = g from he]; exact HPG.out)))) (ok' := fun k => ¬ P2 k) (fun k hk h2 => by rw [hP2] at h2; exact h2.1.elim hk.1 (fun h => by have := hk.2; omega)))
            have HS15 := Aside0.mk ((hb.block _ HW.out).trans HS14.out)
            have HB15 := Aside0.mk (HB14.out.trans (hb.mono (Nat.le_of_lt HW.out)))
            have HN15 := Aside0.mk (Nat.le_trans HN14.out hb.size)
            have HP15 : Aside0 (∀ k, P2 k → k < w15.heap.size) := ⟨fun k hk => by rw [hP2] at hk; exact hk.2⟩
            clear hlg hk hb hP2
            rcases hcase with ⟨rfl, hq1, hG⟩ | ⟨rfl, hq1, hq2, hlt⟩
            · rw [hq1] at HL15
              clear hq1
              have HGD := Aside0.mk hG
              clear hG
              have HM := Aside0.mk (Kd.M_row (Kd.R_apart' HX15.out (Kd.R_typed HC15.out) (by decide)))
              have HXR := Aside0.mk (Kd.R_apart' HX15.out (Kd.R_typed HC15.out) (by decide))
              have HLL : Aside0 ((cans.length + 1) * 24 ≤ 140737488355328) := ⟨by have := HCL.out; have := HI.out; omega⟩
              go_wp2_with (first | (go_at_call 35; refine (lg_num _ _).mono ?_; rintro e' w' ⟨rfl, rfl⟩) | (at_builtin; refine Kd.R_append (Kd.slice 30 (Kd.slice 5 (Kd.int .u8))) (w0 := w15) nb rfl (.tmp 115) (.tmp 117) 73 63 (.slice none 0 0) 24 rfl Try.underlying73 infoRows rfl Nat.one_pos (Nat.succ_pos 23) (.slice Ac cans.length cc) cans q [.slice A13 q.length c13] (fun k => ¬ P2 k) (fun k => ¬ P2 k ∧ some k ≠ (Value.slice Ac cans.length cc).ownBlock) rfl rfl ?aP ?aK ?aF ?aO ?aB ?aS ?aL ?_; (case aP => exact HM.out); (case aK => exact fun k hk => hk); (case aF => exact fun k hk he => by have := HP15.out k he; omega); (case aO => exact HC15.out); (case aB => exact Below.refl _ _); (case aS => exact HN15.out); (case aL => exact HLL.out); intro v16 w16 hR hBB hg hat; obtain ⟨A16, c16, rfl⟩ := Kd.R_slice hR; have HC16 := Aside0.mk hR; have HBB := Aside0.mk hBB; have HG := Aside0.mk hg; clear hR hat hBB hg))
              have hkk : Kept w15 w16 (fun k => some k = (Value.slice Ac cans.length cc).ownBlock) := Kept.of_grown HG.out (Kept.refl _ _) (fun k hk => .inl hk.symm)
              have HL16 := Aside0.mk (HL15.out.kept hkk (fun k hk he => HC15.out.1 k he.symm hk))
              have HV16 := Aside0.mk (Kd.R_mono (Kd.R_kept HXR.out hkk (fun k hk he => hk.2 he)) (ok' := fun k => ¬ P2 k) (fun k hk => hk.1))
              have HS16 := Aside0.mk ((HBB.out.block _ HW.out).trans HS15.out)
              have HB16 := Aside0.mk (HB15.out.trans (HBB.out.mono (Nat.le_of_lt HW.out)))
              have HN16 := Aside0.mk (Nat.le_trans HN15.out HBB.out.size)
              have HP16 : Aside0 (∀ k, P2 k → k < w16.heap.size) := ⟨fun k hk => Nat.lt_of_lt_of_le (HP15.out k hk) HBB.out.size⟩
              clear hkk
              have HFN := Aside0.mk (model_next HLS.out HF.out HGD.out)
              have HQ : Aside0 (layLen q ≤ 1000000) := ⟨good_small HLS.out HFN.out.1⟩
              refine (lg_Records g _ nb P2 d ⟨y, nr, q, fr'⟩ (layP q) HL16.out (lays _ HQ.out)).mono ?_
              rintro e' w17 ⟨v, rfl, hS, hb⟩
              obtain ⟨Ay, cy, rfl⟩ := Kd.S_slice hS
              have HY17 := Aside0.mk hS
              have HBB17 := Aside0.mk hb
              obtain ⟨_, hyc, hyC⟩ := Kd.S_reads' hS
              obtain ⟨_, hvc, hvC⟩ := Kd.R_reads' (Kd.R_below HV16.out hb)
              have HYC := Aside0.mk hyc
              have HYV := Aside0.mk hyC
              have HZC := Aside0.mk hvc
              have HZV := Aside0.mk hvC
              clear hS hb hyc hyC hvc hvC
              go_wp2_with fail
              refine (lg_eqCells Ay cy q A13 c13 q _ HYV.out HYC.out HZV.out HZC.out (by have := HQ.out; omega)).mono ?_
              rintro e' w18 ⟨rfl, nd, hw18⟩
              rw [decide_eq_true rfl]
              have hb : Below w17.heap.size w17 w18 := hw18 ▸ pw_below_drewN (Below.refl _ _) nd
              have HY18 := Aside0.mk (Kd.S_below HY17.out hb)
              have HBB18 := Aside0.mk (below_step HBB17.out hb)
              clear hb hw18
              go_wp2_with fail
              refine (lg_spoil _ q _ w16.heap.size _ HY18.out HBB18.out.size HQ.out).mono ?_
              rintro e' w19 ⟨rfl, hk, hb⟩
              have HBB19 := Aside0.mk (HBB18.out.trans hb)
              clear hk hb
              have HL19 := Aside0.mk (HL16.out.below HBB19.out)
              have HV19 := Aside0.mk (Kd.R_below HV16.out HBB19.out)
              have HC19 := Aside0.mk (Kd.R_below HC16.out HBB19.out)
              have HS19 := Aside0.mk (blk_below HS16.out HBB19.out)
              have HB19 := Aside0.mk (below_step HB16.out HBB19.out)
              have HN19 := Aside0.mk (Nat.le_trans HN16.out HBB19.out.size)
              have HP19 : Aside0 (∀ k, P2 k → k < w19.heap.size) := ⟨fun k hk => Nat.lt_of_lt_of_le (HP16.out k hk) HBB19.out.size⟩
              go_wp2
              go_roundw
              case rel => exact ⟨i + 1, d, g, P2, y, nr, rs0, q, fr', cans ++ [q], by have := HI.out; omega, by omega, rfl, rfl, by go_num, HL19, HP19, HV19, ⟨by have h := HC19.out; first | exact h | (rw [List.length_append] at h; exact h)⟩, HFN, ⟨by have := HCL.out; rw [List.length_append]; show _ + 1 ≤ _; omega⟩, ⟨by have := HNR.out; omega⟩, HS19, HB19, HN19⟩
              case measure => simp [intOf]; omega
            · rw [hq1, hq2] at HL15
              clear hq1 hq2
              have HGG := Aside0.mk hlt
              clear hlt
              go_wp2_with (first | (go_at_call 35; refine (lg_num _ _).mono ?_; rintro e' w' ⟨rfl, rfl⟩))
              obtain ⟨_, hxc, hxC⟩ := Kd.R_reads' HX15.out
              refine (lg_may A13 c13 q m _ hxC hxc (by have := HQL.out; omega) (by have := HMM.out; omega) HGG.out).mono ?_
              rintro e' w16 ⟨rfl, nd, hw16⟩
              have hb : Below w15.heap.size w15 w16 := hw16 ▸ pw_below_drewN (Below.refl _ _) nd
              have HL16 := Aside0.mk (HL15.out.below hb)
              have HV16 := Aside0.mk (Kd.R_below HV15.out hb)
              have HC16 := Aside0.mk (Kd.R_below HC15.out hb)
              have HS16 := Aside0.mk (blk_below HS15.out hb)
              have HB16 := Aside0.mk (below_step HB15.out hb)
              have HN16 := Aside0.mk (Nat.le_trans HN15.out hb.size)
              have HP16 : Aside0 (∀ k, P2 k → k < w16.heap.size) := ⟨fun k hk => Nat.lt_of_lt_of_le (HP15.out k hk) hb.size⟩
              clear hb hw16 hxc hxC
              have HFN := Aside0.mk HF.out
              go_wp2_with fail
              have HQ : Aside0 (layLen rs ≤ 1000000) := ⟨good_small HLS.out HFN.out.1⟩
              refine (lg_Records g _ nb P2 d ⟨y, nr, rs, fr⟩ (layP rs) HL16.out (lays _ HQ.out)).mono ?_
              rintro e' w17 ⟨v, rfl, hS, hb⟩
              obtain ⟨Ay, cy, rfl⟩ := Kd.S_slice hS
              have HY17 := Aside0.mk hS
              have HBB17 := Aside0.mk hb
              obtain ⟨_, hyc, hyC⟩ := Kd.S_reads' hS
              obtain ⟨_, hvc, hvC⟩ := Kd.R_reads' (Kd.R_below HV16.out hb)
              have HYC := Aside0.mk hyc
              have HYV := Aside0.mk hyC
              have HZC := Aside0.mk hvc
              have HZV := Aside0.mk hvC
              clear hS hb hyc hyC hvc hvC
              go_wp2_with fail
              refine (lg_eqCells Ay cy rs An cn rs _ HYV.out HYC.out HZV.out HZC.out (by have := HQ.out; omega)).mono ?_
              rintro e' w18 ⟨rfl, nd, hw18⟩
              rw [decide_eq_true rfl]
              have hb : Below w17.heap.size w17 w18 := hw18 ▸ pw_below_drewN (Below.refl _ _) nd
              have HY18 := Aside0.mk (Kd.S_below HY17.out hb)
              have HBB18 := Aside0.mk (below_step HBB17.out hb)
              clear hb hw18
              go_wp2_with fail
              refine (lg_spoil _ rs _ w16.heap.size _ HY18.out HBB18.out.size HQ.out).mono ?_
              rintro e' w19 ⟨rfl, hk, hb⟩
              have HBB19 := Aside0.mk (HBB18.out.trans hb)
              clear hk hb
              have HL19 := Aside0.mk (HL16.out.below HBB19.out)
              have HV19 := Aside0.mk (Kd.R_below HV16.out HBB19.out)
              have HC19 := Aside0.mk (Kd.R_below HC16.out HBB19.out)
              have HS19 := Aside0.mk (blk_below HS16.out HBB19.out)
              have HB19 := Aside0.mk (below_step HB16.out HBB19.out)
              have HN19 := Aside0.mk (Nat.le_trans HN16.out HBB19.out.size)
              have HP19 : Aside0 (∀ k, P2 k → k < w19.heap.size) := ⟨fun k hk => Nat.lt_of_lt_of_le (HP16.out k hk) HBB19.out.size⟩
              go_wp2
              go_roundw
              case rel => exact ⟨i + 1, d, g, P2, y, nr, rs0, rs, fr, cans, by have := HI.out; omega, by omega, rfl, rfl, by go_num, HL19, HP19, HV19, ⟨by have h := HC19.out; first | exact h | (rw [List.length_append] at h; exact h)⟩, HFN, ⟨by have := HCL.out; omega⟩, ⟨by have := HNR.out; omega⟩, HS19, HB19, HN19⟩
              case measure => simp [intOf]; omega
          · by_cases q5 : r8 = 5
            · subst q5
              clear q4
              go_wp2_with fail
              clear ha2
              refine (lg_SyncG (m * 64) HLS.out g _ nb P d y nr rs0 rs fr HL6.out HN6.out HF.out.1 (by have := HNR.out; have := HI.out; omega)).mono ?_
              rintro e' w15 ⟨cd, y', nr', fr', rfl, hlg, hk, hb, hcase⟩
              obtain ⟨P2, hP2⟩ : ∃ Q : Nat → Prop, Q = fun k => (P k ∨ w6.heap.size ≤ k) ∧ k < w15.heap.size := ⟨_, rfl⟩
              have HL15 := Aside0.mk hlg.bound
              rw [← hP2] at HL15
              have HV15 := Aside0.mk (Kd.R_mono (Kd.R_kept (Kd.R_mono (Kd.R_bound HV6.out) (ok' := fun k => ¬ P k ∧ k < w6.heap.size) (fun k hk => ⟨hk.1, hk.2.2.1⟩)) hk (fun k hk => hk.1)) (ok' := fun k => ¬ P2 k) (fun k hk h2 => by rw [hP2] at h2; exact h2.1.elim hk.1 (fun h => by have := hk.2; omega)))
              have HS15 := Aside0.mk ((hb.block _ HW.out).trans HS6.out)
              have HB15 := Aside0.mk (HB6.out.trans (hb.mono (Nat.le_of_lt HW.out)))
              have HN15 := Aside0.mk (Nat.le_trans HN6.out hb.size)
              have HP15 : Aside0 (∀ k, P2 k → k < w15.heap.size) := ⟨fun k hk => by rw [hP2] at hk; exact hk.2⟩
              clear hlg hk hb hP2
              obtain ⟨rfl, hG, htr, hnr⟩ : cd = 0 ∧ Good (m * 64) y' nr' rs rs fr' ∧ y'.tr = y.tr ∧ nr' ≤ nr + 1 := by
                rcases hcase with h | ⟨_, _, ⟨n, h⟩, _⟩
                · exact h
                · rw [HF.out.2.1 n] at h; cases h
              have HFN := Aside0.mk (model_synced HLS.out HF.out hG htr)
              have HNR2 := Aside0.mk hnr
              clear hG htr hnr hcase
              go_wp2_with (first | (go_at_call 35; refine (lg_num _ _).mono ?_; rintro e' w' ⟨rfl, rfl⟩))
              have hb : Below w15.heap.size w15 (w15.alloc (.cells #[.slice An rs.length cn] 63)) := below_alloc (Below.refl _ _) _
              obtain ⟨w16, hw16⟩ : ∃ W, W = w15.alloc (.cells #[.slice An rs.length cn] 63) := ⟨_, rfl⟩
              have HC16 := Aside0.mk (R_one (e := 63) (ok := fun k => ¬ P2 k) (Kd.slice 30 (Kd.slice 5 (Kd.int .u8))) rfl (Kd.M_row HV15.out) (fun _ h => h) (fun h => by have := HP15.out _ h; omega) HN15.out)
              rw [← hw16] at hb HC16 ⊢
              have HL16 := Aside0.mk (HL15.out.below hb)
              have HV16 := Aside0.mk (Kd.R_below HV15.out hb)
              have HS16 := Aside0.mk (blk_below HS15.out hb)
              have HB16 := Aside0.mk (below_step HB15.out hb)
              have HN16 := Aside0.mk (Nat.le_trans HN15.out hb.size)
              have HP16 : Aside0 (∀ k, P2 k → k < w16.heap.size) := ⟨fun k hk => Nat.lt_of_lt_of_le (HP15.out k hk) hb.size⟩
              clear hb hw16
              have HQ : Aside0 (layLen rs ≤ 1000000) := ⟨good_small HLS.out HFN.out.1⟩
              refine (lg_Records g _ nb P2 d ⟨y', nr', rs, fr'⟩ (layP rs) HL16.out (lays _ HQ.out)).mono ?_
              rintro e' w17 ⟨v, rfl, hS, hb⟩
              obtain ⟨Ay, cy, rfl⟩ := Kd.S_slice hS
              have HY17 := Aside0.mk hS
              have HBB17 := Aside0.mk hb
              obtain ⟨_, hyc, hyC⟩ := Kd.S_reads' hS
              obtain ⟨_, hvc, hvC⟩ := Kd.R_reads' (Kd.R_below HV16.out hb)
              have HYC := Aside0.mk hyc
              have HYV := Aside0.mk hyC
              have HZC := Aside0.mk hvc
              have HZV := Aside0.mk hvC
              clear hS hb hyc hyC hvc hvC
              go_wp2_with fail
              refine (lg_eqCells Ay cy rs An cn rs _ HYV.out HYC.out HZV.out HZC.out (by have := HQ.out; omega)).mono ?_
              rintro e' w18 ⟨rfl, nd, hw18⟩
              rw [decide_eq_true rfl]
              have hb : Below w17.heap.size w17 w18 := hw18 ▸ pw_below_drewN (Below.refl _ _) nd
              have HY18 := Aside0.mk (Kd.S_below HY17.out hb)
              have HBB18 := Aside0.mk (below_step HBB17.out hb)
              clear hb hw18
              go_wp2_with fail
              refine (lg_spoil _ rs _ w16.heap.size _ HY18.out HBB18.out.size HQ.out).mono ?_
              rintro e' w19 ⟨rfl, hk, hb⟩
              have HBB19 := Aside0.mk (HBB18.out.trans hb)
              clear hk hb
              have HL19 := Aside0.mk (HL16.out.below HBB19.out)
              have HV19 := Aside0.mk (Kd.R_below HV16.out HBB19.out)
              have HC19 := Aside0.mk (Kd.R_below HC16.out HBB19.out)
              have HS19 := Aside0.mk (blk_below HS16.out HBB19.out)
              have HB19 := Aside0.mk (below_step HB16.out HBB19.out)
              have HN19 := Aside0.mk (Nat.le_trans HN16.out HBB19.out.size)
              have HP19 : Aside0 (∀ k, P2 k → k < w19.heap.size) := ⟨fun k hk => Nat.lt_of_lt_of_le (HP16.out k hk) HBB19.out.size⟩
              go_wp2
              go_roundw
              case rel => exact ⟨i + 1, d, g, P2, y', nr', rs, rs, fr', [rs], by have := HI.out; omega, by omega, rfl, rfl, by go_num, HL19, HP19, HV19, ⟨by have h := HC19.out; first | exact h | (rw [List.length_append] at h; exact h)⟩, HFN, ⟨by have := HCL.out; show 1 ≤ _; omega⟩, ⟨by have := HNR.out; have := HNR2.out; omega⟩, HS19, HB19, HN19⟩
              case measure => simp [intOf]; omega
            · by_cases q6 : r8 = 6
              · subst q6
                clear q4 q5
                have ha3 := (blk_cell HA6.out 3).trans rfl
                go_wp2_with fail
                obtain ⟨okd, hdk⟩ := HL6.out.disk
                have HFIT := Aside0.mk hdk.fits
                refine (dk_Crash d P0 cp ps _ _ _ _ hdk (Kd.C_below HPP0.out HB6.out) HPC.out).mono ?_
                rintro e' w7 ⟨v, rfl, hR, hb⟩
                obtain ⟨AI, cI, rfl, hic, hiC⟩ := Kd.R_reads hR
                have HIC := Aside0.mk hic
                have HI7 := Aside0.mk hiC
                have HL7 := Aside0.mk (HL6.out.below hb)
                have HV7 := Aside0.mk (Kd.R_below HV6.out hb)
                have HC7 := Aside0.mk (Kd.R_below HC6.out hb)
                have HS7 := Aside0.mk (blk_below HS6.out hb)
                have HA7 := Aside0.mk (blk_below HA6.out hb)
                have HB7 := Aside0.mk (below_step HB6.out hb)
                have HN7 := Aside0.mk (Nat.le_trans HN6.out hb.size)
                have HP7 : Aside0 (∀ k, P k → k < w7.heap.size) := ⟨fun k hk => Nat.lt_of_lt_of_le (HP6.out k hk) hb.size⟩
                clear hR hb hic hiC hdk ha2 ha3
                have ha0 := (blk_cell HA7.out 0).trans rfl
                go_wp2_with fail
                refine (lg_withinF f0 8 6 HRW.out _).mono ?_
                rintro e' w8 ⟨rfl, hb⟩
                have HI8 := Aside0.mk (Kd.C_below HI7.out hb)
                have HL8 := Aside0.mk (HL7.out.below hb)
                have HV8 := Aside0.mk (Kd.R_below HV7.out hb)
                have HC8 := Aside0.mk (Kd.R_below HC7.out hb)
                have HS8 := Aside0.mk (blk_below HS7.out hb)
                have HB8 := Aside0.mk (below_step HB7.out hb)
                have HN8 := Aside0.mk (Nat.le_trans HN7.out hb.size)
                have HP8 : Aside0 (∀ k, P k → k < w8.heap.size) := ⟨fun k hk => Nat.lt_of_lt_of_le (HP7.out k hk) hb.size⟩
                clear hb ha0
                go_wp2_with fail
                refine (lg_SyncG (m * 64) HLS.out g _ nb P d y nr rs0 rs fr HL8.out HN8.out HF.out.1 (by have := HNR.out; have := HI.out; omega)).mono ?_
                rintro e' w15 ⟨cd, y', nr', fr', rfl, hlg, hk, hb, hcase⟩
                obtain ⟨P2, hP2⟩ : ∃ Q : Nat → Prop, Q = fun k => (P k ∨ w8.heap.size ≤ k) ∧ k < w15.heap.size := ⟨_, rfl⟩
                have HL15 := Aside0.mk hlg.bound
                rw [← hP2] at HL15
                have HV15 := Aside0.mk (Kd.R_mono (Kd.R_kept (Kd.R_mono (Kd.R_bound HV8.out) (ok' := fun k => ¬ P k ∧ k < w8.heap.size) (fun k hk => ⟨hk.1, hk.2.2.1⟩)) hk (fun k hk => hk.1)) (ok' := fun k => ¬ P2 k) (fun k hk h2 => by rw [hP2] at h2; exact h2.1.elim hk.1 (fun h => by have := hk.2; omega)))
                have HS15 := Aside0.mk ((hb.block _ HW.out).trans HS8.out)
                have HB15 := Aside0.mk (HB8.out.trans (hb.mono (Nat.le_of_lt HW.out)))
                have HN15 := Aside0.mk (Nat.le_trans HN8.out hb.size)
                have HP15 : Aside0 (∀ k, P2 k → k < w15.heap.size) := ⟨fun k hk => by rw [hP2] at hk; exact hk.2⟩
                clear hlg hk hb hP2
                obtain ⟨rfl, hG, htr, hnr⟩ : cd = 0 ∧ Good (m * 64) y' nr' rs rs fr' ∧ y'.tr = y.tr ∧ nr' ≤ nr + 1 := by
                  rcases hcase with h | ⟨_, _, ⟨n, h⟩, _⟩
                  · exact h
                  · rw [HF.out.2.1 n] at h; cases h
                have HFN := Aside0.mk (model_synced HLS.out HF.out hG htr)
                have HNR2 := Aside0.mk hnr
                clear hG htr hnr hcase
                clear HIC HI7 HI8 HFIT
                go_wp2_with (first | (go_at_call 35; refine (lg_num _ _).mono ?_; rintro e' w' ⟨rfl, rfl⟩))
                obtain ⟨okd, hdk⟩ := HL15.out.disk
                have HFIT := Aside0.mk hdk.fits
                refine (dk_Crash d none 0 [] _ _ _ _ hdk (Kd.C_nil _ _) (Nat.le_refl _)).mono ?_
                rintro e' w16 ⟨v, rfl, hR, hb⟩
                obtain ⟨AI, cI, rfl, hic, hiC⟩ := Kd.R_reads hR
                have HIC := Aside0.mk hic
                have HI16 := Aside0.mk hiC
                have HL16 := Aside0.mk (HL15.out.below hb)
                have HV16 := Aside0.mk (Kd.R_below HV15.out hb)
                have HS16 := Aside0.mk (blk_below HS15.out hb)
                have HB16 := Aside0.mk (below_step HB15.out hb)
                have HN16 := Aside0.mk (Nat.le_trans HN15.out hb.size)
                have HP16 : Aside0 (∀ k, P2 k → k < w16.heap.size) := ⟨fun k hk => Nat.lt_of_lt_of_le (HP15.out k hk) hb.size⟩
                clear hR hb hic hiC hdk
                go_wp2_with fail
                obtain ⟨w17, hw17⟩ : ∃ W, W = w16.alloc (.cells #[.slice An rs.length cn] 63) := ⟨_, rfl⟩
                have hb : Below w16.heap.size w16 w17 := hw17 ▸ below_alloc (Below.refl _ _) _
                have HC17 := Aside0.mk (R_one (e := 63) (ok := fun k => ¬ P2 k) (Kd.slice 30 (Kd.slice 5 (Kd.int .u8))) rfl (Kd.M_row HV16.out) (fun _ h => h) (fun h => by have := HP16.out _ h; omega) HN16.out)
                rw [← hw17] at HC17 ⊢
                have HI17 := Aside0.mk (Kd.C_below HI16.out hb)
                have HL17 := Aside0.mk (HL16.out.below hb)
                have HV17 := Aside0.mk (Kd.R_below HV16.out hb)
                have HS17 := Aside0.mk (blk_below HS16.out hb)
                have HB17 := Aside0.mk (below_step HB16.out hb)
                have HN17 := Aside0.mk (Nat.le_trans HN16.out hb.size)
                have HP17 : Aside0 (∀ k, P2 k → k < w17.heap.size) := ⟨fun k hk => Nat.lt_of_lt_of_le (HP16.out k hk) hb.size⟩
                clear hb hw17
                have HIM := Aside0.mk (model_crash HLS.out HFN.out HFIT.out [])
                clear HL17 HP17 HV17
                refine (dk_New_ok AI cI (y'.crash []).length (y'.crash []) none 0 0 [] _ HI17.out HIC.out (Kd.C_nil k45 _) (fun _ h => by cases h) (by rw [HIM.out.2.1]; have := HMM.out; omega) (fun _ h => by cases h)).mono ?_
                rintro e' w18 ⟨d', rfl, hd, hb⟩
                have HD18 := Aside0.mk ((hd.bound.mono (ok' := fun k => w17.heap.size ≤ k ∧ k < w18.heap.size) (fun k hk => ⟨hk.2.1, hk.2.2⟩)).lower HN17.out)
                have HC18 := Aside0.mk (Kd.R_below HC17.out hb)
                have HS18 := Aside0.mk (blk_below HS17.out hb)
                have HB18 := Aside0.mk (below_step HB17.out hb)
                have HN18 := Aside0.mk (Nat.le_trans HN17.out hb.size)
                clear hd hb
                go_wp2_with (first | (go_at_call 35; refine (lg_num _ _).mono ?_; rintro e' w' ⟨rfl, rfl⟩))
                refine (lg_Open d' _ nb _ (Dk.new (y'.crash []) []) nr' rs (layP rs) HD18.out HN18.out rfl (by show 128 ≤ (y'.crash []).length; rw [HIM.out.2.1]; have := HMM.out; omega) (holds_opens HIM.out.1) (lays _ HIM.out.1.2.2.1)).mono ?_
                rintro e' w19 ⟨g', NN, v, rfl, hlg, hN1, hN2, hS, hb⟩
                obtain ⟨Ar, cr, rfl⟩ := Kd.S_slice hS
                obtain ⟨_, hrc, hrC⟩ := Kd.S_reads' hS
                have HRC9 := Aside0.mk hrc
                have HRV9 := Aside0.mk hrC
                have HRR19 := Aside0.mk (Kd.S_lower (Kd.S_mono (Kd.S_bound hS) (ok' := fun k => NN ≤ k ∧ k < w19.heap.size) (fun k hk => ⟨hk.2.1, hk.2.2.1⟩)) (Nat.le_trans HN18.out hN1))
                obtain ⟨P2, hP2⟩ : ∃ Q : Nat → Prop, Q = fun k => ((w17.heap.size ≤ k ∧ k < w18.heap.size) ∨ w18.heap.size ≤ k) ∧ k < NN := ⟨_, rfl⟩
                have HL19 : Aside0 (LgAt w19 nb P2 g' d' ⟨Dk.new (y'.crash []) [], nr', rs, true⟩) := ⟨by rw [hP2]; exact hlg⟩
                have HPN : Aside0 (∀ k, P2 k → k < NN) := ⟨fun k hk => by rw [hP2] at hk; exact hk.2⟩
                have HNW : Aside0 (NN ≤ w19.heap.size) := ⟨hN2⟩
                have HP19 : Aside0 (∀ k, P2 k → k < w19.heap.size) := ⟨fun k hk => Nat.lt_of_lt_of_le (HPN.out k hk) hN2⟩
                have HC19 := Aside0.mk (Kd.R_below HC18.out hb)
                have HS19 := Aside0.mk (blk_below HS18.out hb)
                have HB19 := Aside0.mk (below_step HB18.out hb)
                have HN19 := Aside0.mk (Nat.le_trans HN18.out hb.size)
                clear hlg hN1 hN2 hS hb hrc hrC hP2
                go_wp2_with (first | (go_at_call 35; refine (lg_num _ _).mono ?_; rintro e' w' ⟨rfl, rfl⟩))
                obtain ⟨hle, hcc, hcC⟩ := Kd.R_reads' HC19.out
                clear hle
                refine (lg_among (some ⟨w16.heap.size, 0, none⟩) 1 [rs] Ar cr rs _ hcC hcc HRV9.out HRC9.out HFN.out.2.2.2 (by show 1 < 1000000000; decide) HFN.out.2.2.1).mono ?_
                rintro e' w20 ⟨rfl, nd, hw20⟩
                have hb : Below w19.heap.size w19 w20 := hw20 ▸ pw_below_drewN (Below.refl _ _) nd
                have HRR20 := Aside0.mk (Kd.S_below HRR19.out hb)
                have HRV20 := Aside0.mk (Kd.C_below HRV9.out hb)
                have HWE20 := Aside0.mk hb.size
                have HL20 := Aside0.mk (HL19.out.below hb)
                have HS20 := Aside0.mk (blk_below HS19.out hb)
                have HB20 := Aside0.mk (below_step HB19.out hb)
                have HN20 := Aside0.mk (Nat.le_trans HN19.out hb.size)
                have HP20 : Aside0 (∀ k, P2 k → k < w20.heap.size) := ⟨fun k hk => Nat.lt_of_lt_of_le (HP19.out k hk) hb.size⟩
                clear hb hw20 hcc hcC HC19 HRV9
                go_wp2_with fail
                refine (lg_copyCells Ar cr rs _ HRV20.out HRC9.out (by have := HIM.out.1.2.2.1; omega)).mono ?_
                rintro e' w21 ⟨v, rfl, hS, hb⟩
                obtain ⟨Aw, cw, rfl⟩ := Kd.S_slice hS
                have HV21 := Aside0.mk (Kd.R_mono (Kd.R_lower (Kd.R_bound (Kd.S_R hS)) HN20.out) (ok' := fun k => w19.heap.size ≤ k) (fun k hk => Nat.le_trans HWE20.out hk.2.1))
                have HRR21 := Aside0.mk (Kd.S_below HRR20.out hb)
                have HWE21 := Aside0.mk (Nat.le_trans HWE20.out hb.size)
                have HL21 := Aside0.mk (HL20.out.below hb)
                have HS21 := Aside0.mk (blk_below HS20.out hb)
                have HB21 := Aside0.mk (below_step HB20.out hb)
                have HN21 := Aside0.mk (Nat.le_trans HN20.out hb.size)
                have HP21 : Aside0 (∀ k, P2 k → k < w21.heap.size) := ⟨fun k hk => Nat.lt_of_lt_of_le (HP20.out k hk) hb.size⟩
                clear hS hb HRV20
                go_wp2_with fail
                obtain ⟨w22, hw22⟩ : ∃ W, W = w21.alloc (.cells #[.slice Aw rs.length cw] 63) := ⟨_, rfl⟩
                have hb : Below w21.heap.size w21 w22 := hw22 ▸ below_alloc (Below.refl _ _) _
                have HC22 := Aside0.mk (R_one (e := 63) (ok := fun k => w19.heap.size ≤ k) (Kd.slice 30 (Kd.slice 5 (Kd.int .u8))) rfl (Kd.M_row HV21.out) (fun _ h => h) HWE21.out HN21.out)
                rw [← hw22] at HC22 ⊢
                have HRR22 := Aside0.mk (Kd.S_below HRR21.out hb)
                have HL22 := Aside0.mk (HL21.out.below hb)
                have HV22 := Aside0.mk (Kd.R_below HV21.out hb)
                have HS22 := Aside0.mk (blk_below HS21.out hb)
                have HB22 := Aside0.mk (below_step HB21.out hb)
                have HN22 := Aside0.mk (Nat.le_trans HN21.out hb.size)
                have HP22 : Aside0 (∀ k, P2 k → k < w22.heap.size) := ⟨fun k hk => Nat.lt_of_lt_of_le (HP21.out k hk) hb.size⟩
                clear hb hw22
                refine (lg_spoil _ rs _ nb _ HRR22.out HN22.out HIM.out.1.2.2.1).mono ?_
                rintro e' w23 ⟨rfl, hk, hb⟩
                have HL23 := Aside0.mk (HL22.out.kept hk (fun k hk2 he => by have := HPN.out k hk2; have := he.1; omega))
                have HV23 := Aside0.mk (Kd.R_mono (Kd.R_kept HV22.out hk (fun k hk2 he => by have := he.2; omega)) (ok' := fun k => ¬ P2 k) (fun k hk2 h2 => by have := HPN.out k h2; have := HNW.out; omega))
                have HC23 := Aside0.mk (Kd.R_mono (Kd.R_kept HC22.out hk (fun k hk2 he => by have := he.2; omega)) (ok' := fun k => ¬ P2 k) (fun k hk2 h2 => by have := HPN.out k h2; have := HNW.out; omega))
                have HS23 := Aside0.mk ((hb.block _ HW.out).trans HS22.out)
                have HB23 := Aside0.mk (HB22.out.trans (hb.mono (Nat.le_of_lt HW.out)))
                have HN23 := Aside0.mk (Nat.le_trans HN22.out hb.size)
                have HP23 : Aside0 (∀ k, P2 k → k < w23.heap.size) := ⟨fun k hk => Nat.lt_of_lt_of_le (HP22.out k hk) hb.size⟩
                have HFN := Aside0.mk HIM.out.2.2
                clear hk hb
                go_wp2_with fail
                have HQ : Aside0 (layLen rs ≤ 1000000) := ⟨good_small HLS.out HFN.out.1⟩
                refine (lg_Records g' _ nb P2 d' ⟨(Dk.new (y'.crash []) []), nr', rs, true⟩ (layP rs) HL23.out (lays _ HQ.out)).mono ?_
                rintro e' w24 ⟨v, rfl, hS, hb⟩
                obtain ⟨Ay, cy, rfl⟩ := Kd.S_slice hS
                have HY24 := Aside0.mk hS
                have HBB24 := Aside0.mk hb
                obtain ⟨_, hyc, hyC⟩ := Kd.S_reads' hS
                obtain ⟨_, hvc, hvC⟩ := Kd.R_reads' (Kd.R_below HV23.out hb)
                have HYC := Aside0.mk hyc
                have HYV := Aside0.mk hyC
                have HZC := Aside0.mk hvc
                have HZV := Aside0.mk hvC
                clear hS hb hyc hyC hvc hvC
                go_wp2_with fail
                refine (lg_eqCells Ay cy rs Aw cw rs _ HYV.out HYC.out HZV.out HZC.out (by have := HQ.out; omega)).mono ?_
                rintro e' w25 ⟨rfl, nd, hw25⟩
                rw [decide_eq_true rfl]
                have hb : Below w24.heap.size w24 w25 := hw25 ▸ pw_below_drewN (Below.refl _ _) nd
                have HY25 := Aside0.mk (Kd.S_below HY24.out hb)
                have HBB25 := Aside0.mk (below_step HBB24.out hb)
                clear hb hw25
                go_wp2_with fail
                refine (lg_spoil _ rs _ w23.heap.size _ HY25.out HBB25.out.size HQ.out).mono ?_
                rintro e' w26 ⟨rfl, hk, hb⟩
                have HBB26 := Aside0.mk (HBB25.out.trans hb)
                clear hk hb
                have HL26 := Aside0.mk (HL23.out.below HBB26.out)
                have HV26 := Aside0.mk (Kd.R_below HV23.out HBB26.out)
                have HC26 := Aside0.mk (Kd.R_below HC23.out HBB26.out)
                have HS26 := Aside0.mk (blk_below HS23.out HBB26.out)
                have HB26 := Aside0.mk (below_step HB23.out HBB26.out)
                have HN26 := Aside0.mk (Nat.le_trans HN23.out HBB26.out.size)
                have HP26 : Aside0 (∀ k, P2 k → k < w26.heap.size) := ⟨fun k hk => Nat.lt_of_lt_of_le (HP23.out k hk) HBB26.out.size⟩
                go_wp2
                go_roundw
                case rel => exact ⟨i + 1, d', g', P2, (Dk.new (y'.crash []) []), nr', rs, rs, true, [rs], by have := HI.out; omega, by omega, rfl, rfl, by go_num, HL26, HP26, HV26, ⟨by have h := HC26.out; first | exact h | (rw [List.length_append] at h; exact h)⟩, HFN, ⟨by have := HCL.out; show 1 ≤ _; omega⟩, ⟨by have := HNR.out; have := HNR2.out; omega⟩, HS26, HB26, HN26⟩
                case measure => simp [intOf]; omega
              · by_cases q7 : r8 = 7
                · subst q7
                  clear q4 q5 q6
                  have ha3 := (blk_cell HA6.out 3).trans rfl
                  go_wp2_with fail
                  obtain ⟨okd, hdk⟩ := HL6.out.disk
                  have HFIT := Aside0.mk hdk.fits
                  refine (dk_Crash d P0 cp ps _ _ _ _ hdk (Kd.C_below HPP0.out HB6.out) HPC.out).mono ?_
                  rintro e' w7 ⟨v, rfl, hR, hb⟩
                  obtain ⟨AI, cI, rfl, hic, hiC⟩ := Kd.R_reads hR
                  have HIC := Aside0.mk hic
                  have HI7 := Aside0.mk hiC
                  have HL7 := Aside0.mk (HL6.out.below hb)
                  have HV7 := Aside0.mk (Kd.R_below HV6.out hb)
                  have HC7 := Aside0.mk (Kd.R_below HC6.out hb)
                  have HS7 := Aside0.mk (blk_below HS6.out hb)
                  have HA7 := Aside0.mk (blk_below HA6.out hb)
                  have HB7 := Aside0.mk (below_step HB6.out hb)
                  have HN7 := Aside0.mk (Nat.le_trans HN6.out hb.size)
                  have HP7 : Aside0 (∀ k, P k → k < w7.heap.size) := ⟨fun k hk => Nat.lt_of_lt_of_le (HP6.out k hk) hb.size⟩
                  clear hR hb hic hiC hdk ha2 ha3
                  have ha0 := (blk_cell HA7.out 0).trans rfl
                  go_wp2_with fail
                  refine (lg_withinF f0 8 7 HRW.out _).mono ?_
                  rintro e' w8 ⟨rfl, hb⟩
                  have HI8 := Aside0.mk (Kd.C_below HI7.out hb)
                  have HL8 := Aside0.mk (HL7.out.below hb)
                  have HV8 := Aside0.mk (Kd.R_below HV7.out hb)
                  have HC8 := Aside0.mk (Kd.R_below HC7.out hb)
                  have HS8 := Aside0.mk (blk_below HS7.out hb)
                  have HB8 := Aside0.mk (below_step HB7.out hb)
                  have HN8 := Aside0.mk (Nat.le_trans HN7.out hb.size)
                  have HP8 : Aside0 (∀ k, P k → k < w8.heap.size) := ⟨fun k hk => Nat.lt_of_lt_of_le (HP7.out k hk) hb.size⟩
                  clear hb ha0
                  go_wp2_with fail
                  have HIM := Aside0.mk (model_crash HLS.out HF.out HFIT.out ps)
                  clear HL8 HP8 HV8
                  refine (dk_New_ok AI cI (y.crash ps).length (y.crash ps) none 0 0 [] _ HI8.out HIC.out (Kd.C_nil k45 _) (fun _ h => by cases h) (by rw [HIM.out.2.1]; have := HMM.out; omega) (fun _ h => by cases h)).mono ?_
                  rintro e' w9 ⟨d', rfl, hd, hb⟩
                  have HD9 := Aside0.mk ((hd.bound.mono (ok' := fun k => w8.heap.size ≤ k ∧ k < w9.heap.size) (fun k hk => ⟨hk.2.1, hk.2.2⟩)).lower HN8.out)
                  have HC9 := Aside0.mk (Kd.R_below HC8.out hb)
                  have HS9 := Aside0.mk (blk_below HS8.out hb)
                  have HB9 := Aside0.mk (below_step HB8.out hb)
                  have HN9 := Aside0.mk (Nat.le_trans HN8.out hb.size)
                  clear hd hb
                  go_wp2_with (first | (go_at_call 35; refine (lg_num _ _).mono ?_; rintro e' w' ⟨rfl, rfl⟩))
                  refine (lg_Open d' _ nb _ (Dk.new (y.crash ps) []) nr rs0 (layP rs0) HD9.out HN9.out rfl (by show 128 ≤ (y.crash ps).length; rw [HIM.out.2.1]; have := HMM.out; omega) (holds_opens HIM.out.1) (lays _ HIM.out.1.2.2.1)).mono ?_
                  rintro e' w10 ⟨g', NN, v, rfl, hlg, hN1, hN2, hS, hb⟩
                  obtain ⟨Ar, cr, rfl⟩ := Kd.S_slice hS
                  obtain ⟨_, hrc, hrC⟩ := Kd.S_reads' hS
                  have HRC9 := Aside0.mk hrc
                  have HRV9 := Aside0.mk hrC
                  have HRR10 := Aside0.mk (Kd.S_lower (Kd.S_mono (Kd.S_bound hS) (ok' := fun k => NN ≤ k ∧ k < w10.heap.size) (fun k hk => ⟨hk.2.1, hk.2.2.1⟩)) (Nat.le_trans HN9.out hN1))
                  obtain ⟨P2, hP2⟩ : ∃ Q : Nat → Prop, Q = fun k => ((w8.heap.size ≤ k ∧ k < w9.heap.size) ∨ w9.heap.size ≤ k) ∧ k < NN := ⟨_, rfl⟩
                  have HL10 : Aside0 (LgAt w10 nb P2 g' d' ⟨Dk.new (y.crash ps) [], nr, rs0, true⟩) := ⟨by rw [hP2]; exact hlg⟩
                  have HPN : Aside0 (∀ k, P2 k → k < NN) := ⟨fun k hk => by rw [hP2] at hk; exact hk.2⟩
                  have HNW : Aside0 (NN ≤ w10.heap.size) := ⟨hN2⟩
                  have HP10 : Aside0 (∀ k, P2 k → k < w10.heap.size) := ⟨fun k hk => Nat.lt_of_lt_of_le (HPN.out k hk) hN2⟩
                  have HC10 := Aside0.mk (Kd.R_below HC9.out hb)
                  have HS10 := Aside0.mk (blk_below HS9.out hb)
                  have HB10 := Aside0.mk (below_step HB9.out hb)
                  have HN10 := Aside0.mk (Nat.le_trans HN9.out hb.size)
                  clear hlg hN1 hN2 hS hb hrc hrC hP2
                  go_wp2_with (first | (go_at_call 35; refine (lg_num _ _).mono ?_; rintro e' w' ⟨rfl, rfl⟩))
                  obtain ⟨hle, hcc, hcC⟩ := Kd.R_reads' HC10.out
                  clear hle
                  refine (lg_among Ac cc cans Ar cr rs0 _ hcC hcc HRV9.out HRC9.out HF.out.2.2.2 (by have := HCL.out; have := HI.out; omega) HF.out.2.2.1).mono ?_
                  rintro e' w11 ⟨rfl, nd, hw11⟩
                  have hb : Below w10.heap.size w10 w11 := hw11 ▸ pw_below_drewN (Below.refl _ _) nd
                  have HRR11 := Aside0.mk (Kd.S_below HRR10.out hb)
                  have HRV11 := Aside0.mk (Kd.C_below HRV9.out hb)
                  have HWE11 := Aside0.mk hb.size
                  have HL11 := Aside0.mk (HL10.out.below hb)
                  have HS11 := Aside0.mk (blk_below HS10.out hb)
                  have HB11 := Aside0.mk (below_step HB10.out hb)
                  have HN11 := Aside0.mk (Nat.le_trans HN10.out hb.size)
                  have HP11 : Aside0 (∀ k, P2 k → k < w11.heap.size) := ⟨fun k hk => Nat.lt_of_lt_of_le (HP10.out k hk) hb.size⟩
                  clear hb hw11 hcc hcC HC10 HRV9
                  go_wp2_with fail
                  refine (lg_copyCells Ar cr rs0 _ HRV11.out HRC9.out (by have := HIM.out.1.2.2.1; omega)).mono ?_
                  rintro e' w12 ⟨v, rfl, hS, hb⟩
                  obtain ⟨Aw, cw, rfl⟩ := Kd.S_slice hS
                  have HV12 := Aside0.mk (Kd.R_mono (Kd.R_lower (Kd.R_bound (Kd.S_R hS)) HN11.out) (ok' := fun k => w10.heap.size ≤ k) (fun k hk => Nat.le_trans HWE11.out hk.2.1))
                  have HRR12 := Aside0.mk (Kd.S_below HRR11.out hb)
                  have HWE12 := Aside0.mk (Nat.le_trans HWE11.out hb.size)
                  have HL12 := Aside0.mk (HL11.out.below hb)
                  have HS12 := Aside0.mk (blk_below HS11.out hb)
                  have HB12 := Aside0.mk (below_step HB11.out hb)
                  have HN12 := Aside0.mk (Nat.le_trans HN11.out hb.size)
                  have HP12 : Aside0 (∀ k, P2 k → k < w12.heap.size) := ⟨fun k hk => Nat.lt_of_lt_of_le (HP11.out k hk) hb.size⟩
                  clear hS hb HRV11
                  go_wp2_with fail
                  obtain ⟨w13, hw13⟩ : ∃ W, W = w12.alloc (.cells #[.slice Aw rs0.length cw] 63) := ⟨_, rfl⟩
                  have hb : Below w12.heap.size w12 w13 := hw13 ▸ below_alloc (Below.refl _ _) _
                  have HC13 := Aside0.mk (R_one (e := 63) (ok := fun k => w10.heap.size ≤ k) (Kd.slice 30 (Kd.slice 5 (Kd.int .u8))) rfl (Kd.M_row HV12.out) (fun _ h => h) HWE12.out HN12.out)
                  rw [← hw13] at HC13 ⊢
                  have HRR13 := Aside0.mk (Kd.S_below HRR12.out hb)
                  have HL13 := Aside0.mk (HL12.out.below hb)
                  have HV13 := Aside0.mk (Kd.R_below HV12.out hb)
                  have HS13 := Aside0.mk (blk_below HS12.out hb)
                  have HB13 := Aside0.mk (below_step HB12.out hb)
                  have HN13 := Aside0.mk (Nat.le_trans HN12.out hb.size)
                  have HP13 : Aside0 (∀ k, P2 k → k < w13.heap.size) := ⟨fun k hk => Nat.lt_of_lt_of_le (HP12.out k hk) hb.size⟩
                  clear hb hw13
                  refine (lg_spoil _ rs0 _ nb _ HRR13.out HN13.out HIM.out.1.2.2.1).mono ?_
                  rintro e' w14 ⟨rfl, hk, hb⟩
                  have HL14 := Aside0.mk (HL13.out.kept hk (fun k hk2 he => by have := HPN.out k hk2; have := he.1; omega))
                  have HV14 := Aside0.mk (Kd.R_mono (Kd.R_kept HV13.out hk (fun k hk2 he => by have := he.2; omega)) (ok' := fun k => ¬ P2 k) (fun k hk2 h2 => by have := HPN.out k h2; have := HNW.out; omega))
                  have HC14 := Aside0.mk (Kd.R_mono (Kd.R_kept HC13.out hk (fun k hk2 he => by have := he.2; omega)) (ok' := fun k => ¬ P2 k) (fun k hk2 h2 => by have := HPN.out k h2; have := HNW.out; omega))
                  have HS14 := Aside0.mk ((hb.block _ HW.out).trans HS13.out)
                  have HB14 := Aside0.mk (HB13.out.trans (hb.mono (Nat.le_of_lt HW.out)))
                  have HN14 := Aside0.mk (Nat.le_trans HN13.out hb.size)
                  have HP14 : Aside0 (∀ k, P2 k → k < w14.heap.size) := ⟨fun k hk => Nat.lt_of_lt_of_le (HP13.out k hk) hb.size⟩
                  have HFN := Aside0.mk HIM.out.2.2
                  clear hk hb
                  go_wp2_with fail
                  have HQ : Aside0 (layLen rs0 ≤ 1000000) := ⟨good_small HLS.out HFN.out.1⟩
                  refine (lg_Records g' _ nb P2 d' ⟨(Dk.new (y.crash ps) []), nr, rs0, true⟩ (layP rs0) HL14.out (lays _ HQ.out)).mono ?_
                  rintro e' w15 ⟨v, rfl, hS, hb⟩
                  obtain ⟨Ay, cy, rfl⟩ := Kd.S_slice hS
                  have HY15 := Aside0.mk hS
                  have HBB15 := Aside0.mk hb
                  obtain ⟨_, hyc, hyC⟩ := Kd.S_reads' hS
                  obtain ⟨_, hvc, hvC⟩ := Kd.R_reads' (Kd.R_below HV14.out hb)
                  have HYC := Aside0.mk hyc
                  have HYV := Aside0.mk hyC
                  have HZC := Aside0.mk hvc
                  have HZV := Aside0.mk hvC
                  clear hS hb hyc hyC hvc hvC
                  go_wp2_with fail
                  refine (lg_eqCells Ay cy rs0 Aw cw rs0 _ HYV.out HYC.out HZV.out HZC.out (by have := HQ.out; omega)).mono ?_
                  rintro e' w16 ⟨rfl, nd, hw16⟩
                  rw [decide_eq_true rfl]
                  have hb : Below w15.heap.size w15 w16 := hw16 ▸ pw_below_drewN (Below.refl _ _) nd
                  have HY16 := Aside0.mk (Kd.S_below HY15.out hb)
                  have HBB16 := Aside0.mk (below_step HBB15.out hb)
                  clear hb hw16
                  go_wp2_with fail
                  refine (lg_spoil _ rs0 _ w14.heap.size _ HY16.out HBB16.out.size HQ.out).mono ?_
                  rintro e' w17 ⟨rfl, hk, hb⟩
                  have HBB17 := Aside0.mk (HBB16.out.trans hb)
                  clear hk hb
                  have HL17 := Aside0.mk (HL14.out.below HBB17.out)
                  have HV17 := Aside0.mk (Kd.R_below HV14.out HBB17.out)
                  have HC17 := Aside0.mk (Kd.R_below HC14.out HBB17.out)
                  have HS17 := Aside0.mk (blk_below HS14.out HBB17.out)
                  have HB17 := Aside0.mk (below_step HB14.out HBB17.out)
                  have HN17 := Aside0.mk (Nat.le_trans HN14.out HBB17.out.size)
                  have HP17 : Aside0 (∀ k, P2 k → k < w17.heap.size) := ⟨fun k hk => Nat.lt_of_lt_of_le (HP14.out k hk) HBB17.out.size⟩
                  go_wp2
                  go_roundw
                  case rel => exact ⟨i + 1, d', g', P2, (Dk.new (y.crash ps) []), nr, rs0, rs0, true, [rs0], by have := HI.out; omega, by omega, rfl, rfl, by go_num, HL17, HP17, HV17, ⟨by have h := HC17.out; first | exact h | (rw [List.length_append] at h; exact h)⟩, HFN, ⟨by have := HCL.out; show 1 ≤ _; omega⟩, ⟨by have := HNR.out; omega⟩, HS17, HB17, HN17⟩
                  case measure => simp [intOf]; omega
                · have t4 : ((r8 : Int) == 4) = false := by simp; omega
                  have t4' : (r8 == 4) = false := by simp; omega
                  have t5 : ((r8 : Int) == 5) = false := by simp; omega
                  have t5' : (r8 == 5) = false := by simp; omega
                  have t6 : ((r8 : Int) == 6) = false := by simp; omega
                  have t6' : (r8 == 6) = false := by simp; omega
                  have t7 : ((r8 : Int) == 7) = false := by simp; omega
                  have t7' : (r8 == 7) = false := by simp; omega
                  clear q4 q5 q6 q7
                  have HCB : Aside0 (∀ W, Below w6.heap.size w6 W → W.cell? ⟨wr.heap.size, 2, none⟩ = some (.slice AR R.length cR)) := ⟨fun W hW => (blk_cell (blk_below HA6.out hW) 2).trans rfl⟩
                  clear ha2
                  go_upto_region 15 with (fail)
                  have HQ0 : Aside0 (Below w6.heap.size w6 w6.drew) := ⟨below_drew (Below.refl _ _)⟩
                  refine start_ (n := 8) (S := fun w' => w'.cell? ⟨wr.heap.size, 2, none⟩ = some (.slice AR R.length cR)) (ds := []) #[false, false, false, false, false, false, false, false] (by kernel_rfl) rfl rfl (HCB.out _ HQ0.out) (fun hHeld => ?_)
                  refine pure_ (i := 0) (N := some 70) (v := ?_) (a' := ?_) #[true, false, false, false, false, false, false, false] rfl rfl (by kernel_rfl) (fun _ _ _ h => h) (Or.inl ⟨by rfl, ?_⟩) ?_ ?_
                  rotate_left
                  · intro w'
                    go_simp
                    with_reducible rfl
                  rotate_left
                  · simp only [Act.put, List.setIfInBounds_toArray, List.set_cons_zero, List.set_cons_succ, i64_w, i32_w]
                    rfl
                  refine pure_ (i := 2) (N := some 72) (v := ?_) (a' := ?_) #[true, false, true, false, false, false, false, false] rfl rfl (by kernel_rfl) (fun _ _ _ h => h) (Or.inl ⟨by rfl, ?_⟩) ?_ ?_
                  rotate_left
                  · intro w'
                    go_simp
                    with_reducible rfl
                  rotate_left
                  · simp only [Act.put, List.setIfInBounds_toArray, List.set_cons_zero, List.set_cons_succ, i64_w, i32_w]
                    rfl
                  refine take_ (i := 3) (N := some 73) (v := ?_) (a' := ?_) #[true, false, true, true, false, false, false, false] rfl rfl (by kernel_rfl) (fun _ _ _ h => h) (Or.inl ⟨by rfl, ?_⟩) hHeld ?_ ?_
                  rotate_left
                  · intro w' s0
                    go_simp
                    with_reducible rfl
                  rotate_left
                  · simp only [Act.put, List.setIfInBounds_toArray, List.set_cons_zero, List.set_cons_succ, i64_w, i32_w]
                    rfl
                  refine one_ (i := 1) (N := some 71) #[true, true, true, true, false, false, false, false] rfl rfl (by kernel_rfl) (by decide) (fun K hK => ?_)
                  refine goes_ Try.func39 (by kernel_rfl) rfl #[.slice An rs.length cn] (by rfl) rfl rfl (by simp only [List.map_toArray, List.map_cons, List.map_nil]; rfl) ?_
                  with_reducible refine (lg_copyCells An cn rs _ (Kd.C_below HVV.out HQ0.out) HVC.out (by have := HLL0.out; omega)).mono ?_
                  rintro e w11 ⟨v11, rfl, hS, hb⟩
                  refine ⟨_, rfl, ?_⟩
                  obtain ⟨A11, c11, rfl⟩ := Kd.S_slice hS
                  have HT11 := Aside0.mk (Kd.S_lower hS HQ0.out.size)
                  have HQ11 := Aside0.mk (below_step HQ0.out hb)
                  clear hS hb
                  refine hK.out _ _ (HCB.out _ HQ11.out) (fun hHeld => ?_)
                  clear hK K
                  refine norm_ (a' := ?_) ?_ ?_
                  rotate_left
                  · show Act.put _ (some 71) _ = _
                    simp only [Act.put, List.setIfInBounds_toArray, List.set_cons_zero, List.set_cons_succ, i64_w, i32_w]
                    rfl
                  refine one_ (i := 4) (N := some 74) #[true, true, true, true, true, false, false, false] rfl rfl (by kernel_rfl) (by decide) (fun K hK => ?_)
                  refine goes_ Try.func20 (by kernel_rfl) rfl #[.slice AR R.length cR] (by rfl) rfl rfl (by simp only [List.map_toArray, List.map_cons, List.map_nil]; rfl) ?_
                  with_reducible refine (lg_copyB AR cR R _ (Kd.C_below HRC0.out (below_step HB6.out HQ11.out)) HRCC.out (by have := H80.out; omega)).mono ?_
                  rintro e w12 ⟨v12, rfl, hR, hb⟩
                  refine ⟨_, rfl, ?_⟩
                  obtain ⟨A12, c12, rfl⟩ := Kd.R_slice hR
                  have HT12 := Aside0.mk (Kd.S_elder' HT11.out (Kd.R_base hR) hb)
                  have HR12 := Aside0.mk (Kd.R_lower hR HQ11.out.size)
                  have HQ12 := Aside0.mk (below_step HQ11.out hb)
                  clear hR hb
                  refine hK.out _ _ (HCB.out _ HQ12.out) (fun hHeld => ?_)
                  clear hK K
                  refine norm_ (a' := ?_) ?_ ?_
                  rotate_left
                  · show Act.put _ (some 74) _ = _
                    simp only [Act.put, List.setIfInBounds_toArray, List.set_cons_zero, List.set_cons_succ, i64_w, i32_w]
                    rfl
                  refine one_ (i := 5) (N := some 75) #[true, true, true, true, true, true, false, false] rfl rfl (by kernel_rfl) (by decide) (fun K hK => ?_)
                  refine value_ (w1 := ?_) (v := ?_) (by rfl) rfl ?_ ?_
                  rotate_left 2
                  · go_simp
                    constructor
                    · rfl
                    · rfl
                  refine hK.out _ _ (HCB.out _ (below_alloc HQ12.out _)) (fun hHeld => ?_)
                  clear hK K
                  refine norm_ (a' := ?_) ?_ ?_
                  rotate_left
                  · show Act.put _ (some 75) _ = _
                    simp only [Act.put, List.setIfInBounds_toArray, List.set_cons_zero, List.set_cons_succ, i64_w, i32_w]
                    rfl
                  refine one_ (i := 6) (N := some 76) #[true, true, true, true, true, true, true, false] rfl rfl (by kernel_rfl) (by decide) (fun K hK => ?_)
                  refine Kd.S_append_step (Kd.slice 5 (Kd.int .u8)) (w0 := w6) w6.heap.size (by rfl) (.tmp 71) (.tmp 75) 63 30 (.slice none 0 0) 24 rfl Try.underlying63 info30 rfl (by decide) (by omega) (.slice A11 rs.length c11) rs R [.slice A12 R.length c12] (fun _ => True) (fun k_ => some k_ = (.slice A12 R.length c12 : Value).ownBlock) rfl rfl ?aP (fun k_ hk_ => ((Kd.R_mono (ok' := fun k_ => ((fun _ => True)) k_ ∧ some k_ ≠ (.slice A11 rs.length c11 : Value).ownBlock) (Kd.R_apart' (HR12.out) (Kd.S_typed HT12.out) (by decide)) (fun k_ hk => ⟨trivial, hk.2⟩))).1 k_ hk_.symm) ?aF ?aO ?aB ?aS ?aL ?_
                  (case aP => exact Kd.M_row (Kd.R_mono (Kd.R_tight rfl (Kd.R_mono (ok' := fun k_ => ((fun _ => True)) k_ ∧ some k_ ≠ (.slice A11 rs.length c11 : Value).ownBlock) (Kd.R_apart' (HR12.out) (Kd.S_typed HT12.out) (by decide)) (fun k_ hk => ⟨trivial, hk.2⟩))) (fun _ h_ => h_)))
                  (case aB => exact HQ12.out)
                  (case aF => exact (fun _ _ => trivial))
                  (case aO => exact Kd.S_mono HT12.out (fun k_ hk => ⟨trivial, fun e_ => hk.2 e_⟩))
                  (case aS => exact HQ12.out.size)
                  (case aL => have := HRL.out; omega)
                  intro v13 w13 ho hb hg hat
                  obtain ⟨A13, c13, rfl⟩ := Kd.S_slice ho
                  have HT13 := Aside0.mk (Kd.S_R ho)
                  have HQ13 := Aside0.mk hb
                  clear ho hb hg hat
                  refine hK.out _ _ (HCB.out _ HQ13.out) (fun hHeld => ?_)
                  clear hK K
                  refine norm_ (a' := ?_) ?_ ?_
                  rotate_left
                  · show Act.put _ (some 76) _ = _
                    simp only [Act.put, List.setIfInBounds_toArray, List.set_cons_zero, List.set_cons_succ, i64_w, i32_w]
                    rfl
                  refine pure_ (i := 7) (N := some 20) (v := ?_) (a' := ?_) #[true, true, true, true, true, true, true, true] rfl rfl (by kernel_rfl) (fun _ _ _ h => h) (Or.inl ⟨by rfl, ?_⟩) ?_ ?_
                  rotate_left
                  · intro w'
                    go_simp
                    with_reducible rfl
                  rotate_left
                  · simp only [Act.put, List.setIfInBounds_toArray, List.set_cons_zero, List.set_cons_succ, i64_w, i32_w]
                    rfl
                  refine done_ (by kernel_rfl) ?_
                  have HX13 := Aside0.mk (Kd.R_mono (Kd.R_lower (Kd.R_bound HT13.out) HN6.out) (ok' := fun k => ¬ P k) (fun k hk hp => by have := HP6.out k hp; have := hk.2.1; omega))
                  have HL13 := Aside0.mk (HL6.out.below HQ13.out)
                  have HV13 := Aside0.mk (Kd.R_below HV6.out HQ13.out)
                  have HC13 := Aside0.mk (Kd.R_below HC6.out HQ13.out)
                  have HS13 := Aside0.mk (blk_below HS6.out HQ13.out)
                  have HA13 := Aside0.mk (blk_below HA6.out HQ13.out)
                  have HB13 := Aside0.mk (below_step HB6.out HQ13.out)
                  have HN13 := Aside0.mk (Nat.le_trans HN6.out HQ13.out.size)
                  have HP13 : Aside0 (∀ k, P k → k < w13.heap.size) := ⟨fun k hk => Nat.lt_of_lt_of_le (HP6.out k hk) HQ13.out.size⟩
                  clear HVV HT11 HT12 HR12 HQ11 HQ12 hHeld HCB
                  have ha2 := (blk_cell HA13.out 2).trans rfl
                  obtain ⟨q, hq⟩ : ∃ q, q = rs ++ [R] := ⟨_, rfl⟩
                  have hql : layLen q ≤ 20000 := by rw [hq, layLen_snoc]; have := HLL0.out; have := H80.out; omega
                  have HQL := Aside0.mk hql
                  have HX13q : Aside0 (Kd.R (Kd.slice 5 (Kd.int .u8)) 30 w13 nb (fun k => ¬ P k) (.slice A13 q.length c13) q) := ⟨by rw [hq]; exact HX13.out⟩
                  have hqn : rs.length + 1 = q.length := by rw [hq, List.length_append]; rfl
                  have HQE := Aside0.mk hq
                  clear hq hql HX13
                  have HX13 := Aside0.mk HX13q.out
                  clear HX13q
                  rw [hqn]
                  clear hqn
                  go_wp2_with fail
                  refine (lg_copyB AR cR R _ (Kd.C_below HRC0.out HB13.out) HRCC.out (by have := H80.out; omega)).mono ?_
                  rintro e' w14 ⟨v, rfl, hR, hb⟩
                  obtain ⟨A14, c14, rfl, hc14, hC14⟩ := Kd.R_reads hR
                  have HD14 := Aside0.mk hC14
                  have HE14 := Aside0.mk hc14
                  have HR14 := Aside0.mk (Kd.R_mono (Kd.R_lower (Kd.R_bound hR) HN13.out) (ok' := fun k => w13.heap.size ≤ k ∧ k < w14.heap.size) (fun k hk => ⟨hk.2.1, hk.2.2.1⟩))
                  have HL14 := Aside0.mk (HL13.out.below hb)
                  have HN14 := Aside0.mk (Nat.le_trans HN13.out hb.size)
                  have hk0 := Kept.of_below hb (fun k => k = g)
                  have hb0 := hb.mono HN13.out
                  have HP13' := Aside0.mk (HP13.out)
                  clear hR hb hc14 hC14 ha2
                  go_wp2_with fail
                  refine (lg_AppendG (m * 64) HLS.out g A14 c14 R _ nb P d y nr rs0 rs fr HL14.out HN14.out HF.out.1 HD14.out HE14.out (by have := H80.out; omega)).mono ?_
                  rw [← HQE.out]
                  rintro e' w15 ⟨cd, rs', fr', rfl, hlg, hk, hb, hcase⟩
                  have hgl : g < w13.heap.size := HP13.out g HPG.out
                  have HR15 := Aside0.mk (Kd.R_kept HR14.out hk (fun k hk he => by have := hk.1; omega))
                  have hlg15 := hlg.bound
                  have hk1 := hk0.then_ hk (fun k h => .inl h)
                  have hb1 := hb0.trans hb
                  have HK1 := Aside0.mk hk1
                  have HBB1 := Aside0.mk hb1
                  have HLG := Aside0.mk hlg15
                  have HCS := Aside0.mk hcase
                  have HSZ : Aside0 (w13.heap.size ≤ w14.heap.size ∧ w14.heap.size ≤ w15.heap.size) := ⟨hk0.1, hk.1⟩
                  clear hk hb hk0 hb0 hlg hlg15 hk1 hb1 hcase hgl
                  go_wp2_with fail
                  refine (dk_spoil _ R _ nb _ (Kd.Q_of_R HR15.out) (Nat.le_trans HN14.out HSZ.out.2) (by have := H80.out; omega)).mono ?_
                  rintro e' w17 ⟨rfl, hks, hbs⟩
                  have hk := HK1.out.then_ hks (fun k h => .inr h.1)
                  have hb := HBB1.out.trans hbs
                  have hlg : LgAt w17 nb (fun k => P k ∨ w13.heap.size ≤ k) g d ⟨y, nr, rs', fr'⟩ := (HLG.out.kept hks (fun k hk h => hk.1.elim (fun h2 => by have := HP13.out k h2; have := h.1; omega) (fun h2 => by have := h.2; omega))).mono (fun k hk => hk.1.imp id (fun h => by have := HSZ.out.1; omega))
                  clear hks hbs
                  obtain ⟨P2, hP2⟩ : ∃ Q : Nat → Prop, Q = fun k => (P k ∨ w13.heap.size ≤ k) ∧ k < w17.heap.size := ⟨_, rfl⟩
                  have HL17 := Aside0.mk hlg.bound
                  rw [← hP2] at HL17
                  have HV17 := Aside0.mk (Kd.R_mono (Kd.R_kept (Kd.R_mono (Kd.R_bound HV13.out) (ok' := fun k => ¬ P k ∧ k < w13.heap.size) (fun k hk => ⟨hk.1, hk.2.2.1⟩)) hk (fun k hk => (fun he => hk.1 (by rw [show k = g from he]; exact HPG.out)))) (ok' := fun k => ¬ P2 k) (fun k hk h2 => by rw [hP2] at h2; exact h2.1.elim hk.1 (fun h => by have := hk.2; omega)))
                  have HC17 := Aside0.mk (Kd.R_mono (Kd.R_kept (Kd.R_mono (Kd.R_bound HC13.out) (ok' := fun k => ¬ P k ∧ k < w13.heap.size) (fun k hk => ⟨hk.1, hk.2.2.1⟩)) hk (fun k hk => (fun he => hk.1 (by rw [show k = g from he]; exact HPG.out)))) (ok' := fun k => ¬ P2 k) (fun k hk h2 => by rw [hP2] at h2; exact h2.1.elim hk.1 (fun h => by have := hk.2; omega)))
                  have HX17 := Aside0.mk (Kd.R_mono (Kd.R_kept (Kd.R_mono (Kd.R_bound HX13.out) (ok' := fun k => ¬ P k ∧ k < w13.heap.size) (fun k hk => ⟨hk.1, hk.2.2.1⟩)) hk (fun k hk => (fun he => hk.1 (by rw [show k = g from he]; exact HPG.out)))) (ok' := fun k => ¬ P2 k) (fun k hk h2 => by rw [hP2] at h2; exact h2.1.elim hk.1 (fun h => by have := hk.2; omega)))
                  have HS17 := Aside0.mk ((hb.block _ HW.out).trans HS13.out)
                  have HB17 := Aside0.mk (HB13.out.trans (hb.mono (Nat.le_of_lt HW.out)))
                  have HN17 := Aside0.mk (Nat.le_trans HN13.out hb.size)
                  have HP17 : Aside0 (∀ k, P2 k → k < w17.heap.size) := ⟨fun k hk => by rw [hP2] at hk; exact hk.2⟩
                  clear hlg hk hb hP2
                  rcases HCS.out with ⟨rfl, hq1, hG⟩ | ⟨rfl, hq1, hq2, hlt⟩
                  · rw [hq1] at HL17
                    clear hq1
                    have HGD := Aside0.mk hG
                    clear hG HCS
                    have HM := Aside0.mk (Kd.M_row (Kd.R_apart' HX17.out (Kd.R_typed HC17.out) (by decide)))
                    have HXR := Aside0.mk (Kd.R_apart' HX17.out (Kd.R_typed HC17.out) (by decide))
                    have HLL : Aside0 ((cans.length + 1) * 24 ≤ 140737488355328) := ⟨by have := HCL.out; have := HI.out; omega⟩
                    go_wp2_with (first | (go_at_call 35; refine (lg_num _ _).mono ?_; rintro e' w' ⟨rfl, rfl⟩) | (at_builtin; refine Kd.R_append (Kd.slice 30 (Kd.slice 5 (Kd.int .u8))) (w0 := w17) nb rfl (.tmp 89) (.tmp 91) 73 63 (.slice none 0 0) 24 rfl Try.underlying73 infoRows rfl Nat.one_pos (Nat.succ_pos 23) (.slice Ac cans.length cc) cans q [.slice A13 q.length c13] (fun k => ¬ P2 k) (fun k => ¬ P2 k ∧ some k ≠ (Value.slice Ac cans.length cc).ownBlock) rfl rfl ?aP ?aK ?aF ?aO ?aB ?aS ?aL ?_; (case aP => exact HM.out); (case aK => exact fun k hk => hk); (case aF => exact fun k hk he => by have := HP17.out k he; omega); (case aO => exact HC17.out); (case aB => exact Below.refl _ _); (case aS => exact HN17.out); (case aL => exact HLL.out); intro v18 w18 hR hBB hg hat; obtain ⟨A18, c18, rfl⟩ := Kd.R_slice hR; have HC18 := Aside0.mk hR; have HBB := Aside0.mk hBB; have HG := Aside0.mk hg; clear hR hat hBB hg))
                    have hkk : Kept w17 w18 (fun k => some k = (Value.slice Ac cans.length cc).ownBlock) := Kept.of_grown HG.out (Kept.refl _ _) (fun k hk => .inl hk.symm)
                    have HL18 := Aside0.mk (HL17.out.kept hkk (fun k hk he => HC17.out.1 k he.symm hk))
                    have HV18 := Aside0.mk (Kd.R_mono (Kd.R_kept HXR.out hkk (fun k hk he => hk.2 he)) (ok' := fun k => ¬ P2 k) (fun k hk => hk.1))
                    have HS18 := Aside0.mk ((HBB.out.block _ HW.out).trans HS17.out)
                    have HB18 := Aside0.mk (HB17.out.trans (HBB.out.mono (Nat.le_of_lt HW.out)))
                    have HN18 := Aside0.mk (Nat.le_trans HN17.out HBB.out.size)
                    have HP18 : Aside0 (∀ k, P2 k → k < w18.heap.size) := ⟨fun k hk => Nat.lt_of_lt_of_le (HP17.out k hk) HBB.out.size⟩
                    clear hkk
                    have HFN := Aside0.mk (model_next HLS.out HF.out HGD.out)
                    have HQ : Aside0 (layLen q ≤ 1000000) := ⟨good_small HLS.out HFN.out.1⟩
                    refine (lg_Records g _ nb P2 d ⟨y, nr, q, fr'⟩ (layP q) HL18.out (lays _ HQ.out)).mono ?_
                    rintro e' w19 ⟨v, rfl, hS, hb⟩
                    obtain ⟨Ay, cy, rfl⟩ := Kd.S_slice hS
                    have HY19 := Aside0.mk hS
                    have HBB19 := Aside0.mk hb
                    obtain ⟨_, hyc, hyC⟩ := Kd.S_reads' hS
                    obtain ⟨_, hvc, hvC⟩ := Kd.R_reads' (Kd.R_below HV18.out hb)
                    have HYC := Aside0.mk hyc
                    have HYV := Aside0.mk hyC
                    have HZC := Aside0.mk hvc
                    have HZV := Aside0.mk hvC
                    clear hS hb hyc hyC hvc hvC
                    go_wp2_with fail
                    refine (lg_eqCells Ay cy q A13 c13 q _ HYV.out HYC.out HZV.out HZC.out (by have := HQ.out; omega)).mono ?_
                    rintro e' w20 ⟨rfl, nd, hw20⟩
                    rw [decide_eq_true rfl]
                    have hb : Below w19.heap.size w19 w20 := hw20 ▸ pw_below_drewN (Below.refl _ _) nd
                    have HY20 := Aside0.mk (Kd.S_below HY19.out hb)
                    have HBB20 := Aside0.mk (below_step HBB19.out hb)
                    clear hb hw20
                    go_wp2_with fail
                    refine (lg_spoil _ q _ w18.heap.size _ HY20.out HBB20.out.size HQ.out).mono ?_
                    rintro e' w21 ⟨rfl, hk, hb⟩
                    have HBB21 := Aside0.mk (HBB20.out.trans hb)
                    clear hk hb
                    have HL21 := Aside0.mk (HL18.out.below HBB21.out)
                    have HV21 := Aside0.mk (Kd.R_below HV18.out HBB21.out)
                    have HC21 := Aside0.mk (Kd.R_below HC18.out HBB21.out)
                    have HS21 := Aside0.mk (blk_below HS18.out HBB21.out)
                    have HB21 := Aside0.mk (below_step HB18.out HBB21.out)
                    have HN21 := Aside0.mk (Nat.le_trans HN18.out HBB21.out.size)
                    have HP21 : Aside0 (∀ k, P2 k → k < w21.heap.size) := ⟨fun k hk => Nat.lt_of_lt_of_le (HP18.out k hk) HBB21.out.size⟩
                    go_wp2
                    go_roundw
                    case rel => exact ⟨i + 1, d, g, P2, y, nr, rs0, q, fr', cans ++ [q], by have := HI.out; omega, by omega, rfl, rfl, by go_num, HL21, HP21, HV21, ⟨by have h := HC21.out; first | exact h | (rw [List.length_append] at h; exact h)⟩, HFN, ⟨by have := HCL.out; rw [List.length_append]; show _ + 1 ≤ _; omega⟩, ⟨by have := HNR.out; omega⟩, HS21, HB21, HN21⟩
                    case measure => simp [intOf]; omega
                  · rw [hq1, hq2] at HL17
                    clear hq1 hq2 HCS
                    have HGG := Aside0.mk hlt
                    clear hlt
                    go_wp2_with (first | (go_at_call 35; refine (lg_num _ _).mono ?_; rintro e' w' ⟨rfl, rfl⟩))
                    obtain ⟨_, hxc, hxC⟩ := Kd.R_reads' HX17.out
                    refine (lg_may A13 c13 q m _ hxC hxc (by have := HQL.out; omega) (by have := HMM.out; omega) HGG.out).mono ?_
                    rintro e' w18 ⟨rfl, nd, hw18⟩
                    have hb : Below w17.heap.size w17 w18 := hw18 ▸ pw_below_drewN (Below.refl _ _) nd
                    have HL18 := Aside0.mk (HL17.out.below hb)
                    have HV18 := Aside0.mk (Kd.R_below HV17.out hb)
                    have HC18 := Aside0.mk (Kd.R_below HC17.out hb)
                    have HS18 := Aside0.mk (blk_below HS17.out hb)
                    have HB18 := Aside0.mk (below_step HB17.out hb)
                    have HN18 := Aside0.mk (Nat.le_trans HN17.out hb.size)
                    have HP18 : Aside0 (∀ k, P2 k → k < w18.heap.size) := ⟨fun k hk => Nat.lt_of_lt_of_le (HP17.out k hk) hb.size⟩
                    clear hb hw18 hxc hxC
                    have HFN := Aside0.mk HF.out
                    go_wp2_with fail
                    have HQ : Aside0 (layLen rs ≤ 1000000) := ⟨good_small HLS.out HFN.out.1⟩
                    refine (lg_Records g _ nb P2 d ⟨y, nr, rs, fr⟩ (layP rs) HL18.out (lays _ HQ.out)).mono ?_
                    rintro e' w19 ⟨v, rfl, hS, hb⟩
                    obtain ⟨Ay, cy, rfl⟩ := Kd.S_slice hS
                    have HY19 := Aside0.mk hS
                    have HBB19 := Aside0.mk hb
                    obtain ⟨_, hyc, hyC⟩ := Kd.S_reads' hS
                    obtain ⟨_, hvc, hvC⟩ := Kd.R_reads' (Kd.R_below HV18.out hb)
                    have HYC := Aside0.mk hyc
                    have HYV := Aside0.mk hyC
                    have HZC := Aside0.mk hvc
                    have HZV := Aside0.mk hvC
                    clear hS hb hyc hyC hvc hvC
                    go_wp2_with fail
                    refine (lg_eqCells Ay cy rs An cn rs _ HYV.out HYC.out HZV.out HZC.out (by have := HQ.out; omega)).mono ?_
                    rintro e' w20 ⟨rfl, nd, hw20⟩
                    rw [decide_eq_true rfl]
                    have hb : Below w19.heap.size w19 w20 := hw20 ▸ pw_below_drewN (Below.refl _ _) nd
                    have HY20 := Aside0.mk (Kd.S_below HY19.out hb)
                    have HBB20 := Aside0.mk (below_step HBB19.out hb)
                    clear hb hw20
                    go_wp2_with fail
                    refine (lg_spoil _ rs _ w18.heap.size _ HY20.out HBB20.out.size HQ.out).mono ?_
                    rintro e' w21 ⟨rfl, hk, hb⟩
                    have HBB21 := Aside0.mk (HBB20.out.trans hb)
                    clear hk hb
                    have HL21 := Aside0.mk (HL18.out.below HBB21.out)
                    have HV21 := Aside0.mk (Kd.R_below HV18.out HBB21.out)
                    have HC21 := Aside0.mk (Kd.R_below HC18.out HBB21.out)
                    have HS21 := Aside0.mk (blk_below HS18.out HBB21.out)
                    have HB21 := Aside0.mk (below_step HB18.out HBB21.out)
                    have HN21 := Aside0.mk (Nat.le_trans HN18.out HBB21.out.size)
                    have HP21 : Aside0 (∀ k, P2 k → k < w21.heap.size) := ⟨fun k hk => Nat.lt_of_lt_of_le (HP18.out k hk) HBB21.out.size⟩
                    go_wp2
                    go_roundw
                    case rel => exact ⟨i + 1, d, g, P2, y, nr, rs0, rs, fr, cans, by have := HI.out; omega, by omega, rfl, rfl, by go_num, HL21, HP21, HV21, ⟨by have h := HC21.out; first | exact h | (rw [List.length_append] at h; exact h)⟩, HFN, ⟨by have := HCL.out; omega⟩, ⟨by have := HNR.out; omega⟩, HS21, HB21, HN21⟩
                    case measure => simp [intOf]; omega
        · have hge : decide (i < 25) = false := decide_eq_false h25
          have hge' : decide ((i : Int) < 25) = false := decide_eq_false (by omega)
          go_wp2_with (first | (go_at_call 41; refine (lg_wakes _).mono ?_; rintro e' w9 ⟨rfl, hb⟩; have HXX := Aside0.mk (below_step HB0.out hb); clear hb))
          go_ret
          exact ⟨rfl, HXX.out⟩
      · have hge : decide (i < l2.length) = false := decide_eq_false hlt
        go_wp2_with (first | (go_at_call 41; refine (lg_wakes _).mono ?_; rintro e' w9 ⟨rfl, hb⟩; have HXX := Aside0.mk (below_step HB0.out hb); clear hb))
        go_ret
        exact ⟨rfl, HXX.out⟩
  · go_wp2
    go_ret
    exact ⟨rfl, HBa.out⟩

end Go.Proofs.Ytpkhpfgojhojaaa.PLg

namespace Go.Proofs.Ytpkhpfgojhojaaa.PLg
open Go.RowKit Go.Proofs.YtpkhpfgojhojaaaW.PrintWords Go.Proofs.YtpkhpfgojhojaaaW.PrintLast Go.Proofs.YtpkhpfgojhojaaaW.PrintMore
attribute [local go_sem] max2_int min2_int max_two min_two max_three min_three max_four min_four
set_option linter.unusedVariables false
set_option linter.unusedSimpArgs false
-- IMPORT: Derived.Test.@N@WOwn
-- IMPORT: Derived.Test.@N@OpensLg
-- IMPORT: Derived.Test.@N@DLawmodel
theorem logModel_row (cs : Array Value) (x : Int × List S45 × List S65) (w : World) (h : ok60 x) (hk : (Kd.pair (Kd.int .i64) (Kd.pair (Kd.slice 45 k45) (Kd.slice 65 k65))).K w x cs.toList) :
    Calls Try.prog 7 #[.agg cs] w fun e w' => e = .returned (.bool true) ∧ Below w.heap.size w w' := by
  obtain ⟨a0, l1, l2⟩ := x
  obtain ⟨q1, q2, e, h1, q3, q4, rfl, ⟨A1, c1, rfl, hl1, hC1⟩, ⟨A2, c2, rfl, hl2, hC2⟩⟩ := hk
  have h1' : q1 = [.int .i64 a0] := h1
  subst h1'
  obtain rfl : cs = #[.int .i64 a0, .slice A1 l1.length c1, .slice A2 l2.length c2] := Array.ext' e
  exact gangwaylaw12_LogModel.walk a0 A1 A2 c1 c2 l1 l2 w hC1 hl1 hC2 hl2 (fun x hx => by
    have hx := h.2.2.2.2 x hx
    have h2 := hx.2.2.1.2.1
    have h3 := hx.2.2.2.2.1
    exact ⟨by omega, by omega⟩)

end Go.Proofs.Ytpkhpfgojhojaaa.PLg
