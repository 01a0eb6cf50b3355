/- Parts of one proof, merged by a program of this repo: walks over the given program and plain facts. -/
import Derived.Test.YtjghephnjkffcaaMTreeNames10
import Derived.Test.YtjghephnjkffcaaMTreeNames11
import Derived.Test.YtjghephnjkffcaaMTreeNames13
import Derived.Test.YtjghephnjkffcaaMTreeNames12
import Derived.Test.YtjghephnjkffcaaMTreeNames4
import Derived.Test.YtjghephnjkffcaaMTreeNames8
import Derived.Test.YtjghephnjkffcaaMTreeNames2
import Derived.Deep.LoopGhost
import Derived.Deep.DeepCutAuto
namespace Go.Proofs.Ytjghephnjkffcaa.PCk
open Go.RowKit Go.Proofs.YtjghephnjkffcaaW.PrintWords Go.Proofs.YtjghephnjkffcaaW.PrintLast Go.Proofs.YtjghephnjkffcaaW.PrintMore
attribute [local go_sem] zb0 zbY zcl zck zbC zbB zbZ zbX
set_option linter.unusedVariables false
set_option linter.unusedSimpArgs false
theorem act_cellsN {W w : World} {A : Option Addr} {n : Nat} {l : List S38} (h : Kd.C k38 w A n l) (hb : Below w.heap.size w W) (i : Nat) (hi : i < n) : ∃ ad X y, A = some ad ∧ W.cell? (ad.add (i * 12)) = some (.int .i64 (zaG l i).f0) ∧ W.cell? ⟨(ad.add (i * 12)).block, (ad.add (i * 12)).off + 1, none⟩ = some (.int .i64 (zaG l i).f1) ∧ W.cell? ⟨(ad.add (i * 12)).block, (ad.add (i * 12)).off + 2, none⟩ = some (.int .i64 (zaG l i).f2) ∧ W.cell? ⟨(ad.add (i * 12)).block, (ad.add (i * 12)).off + 3, none⟩ = some (.int .i64 (zaG l i).f3) ∧ W.cell? ⟨(ad.add (i * 12)).block, (ad.add (i * 12)).off + 4, none⟩ = some (.string (zaG l i).f4) ∧ W.cell? ⟨(ad.add (i * 12)).block, (ad.add (i * 12)).off + 5, none⟩ = some (.string (zaG l i).f5) ∧ W.cell? ⟨(ad.add (i * 12)).block, (ad.add (i * 12)).off + 6, none⟩ = some (.int .i64 (zaG l i).f6) ∧ W.cell? ⟨(ad.add (i * 12)).block, (ad.add (i * 12)).off + 7, none⟩ = some (.bool (zaG l i).f7) ∧ W.cell? ⟨(ad.add (i * 12)).block, (ad.add (i * 12)).off + 8, none⟩ = some (.int .i64 (zaG l i).f8) ∧ W.cell? ⟨(ad.add (i * 12)).block, (ad.add (i * 12)).off + 9, none⟩ = some (.int .i64 (zaG l i).f9) ∧ W.cell? ⟨(ad.add (i * 12)).block, (ad.add (i * 12)).off + 10, none⟩ = some (.slice X (zaG l i).f10.length y) ∧ W.cell? ⟨(ad.add (i * 12)).block, (ad.add (i * 12)).off + 11, none⟩ = some (.int .i64 (zaG l i).f11) ∧ (zaG l i).f10.length ≤ y ∧ Kd.C (Kd.int .u8) w X (zaG l i).f10.length (zaG l i).f10 := by
 obtain ⟨ad, X, y, ee, h0, h1, h2, h3, h4, h5, h6, h7, h8, h9, h10, h11, hy, hC⟩ := at_T38 h (i : Int) (by omega) (by omega)
 rw [Int.toNat_natCast] at h0 h1 h2 h3 h4 h5 h6 h7 h8 h9 h10 h11
 have up : ∀ {a : Addr} {v : Value}, w.cell? a = some v → W.cell? a = some v := fun h => (hb.cell (World.block_lt_of_cell? _ _ h)).trans h
 exact ⟨ad, X, y, ee, up h0, up h1, up h2, up h3, up h4, up h5, up h6, up h7, up h8, up h9, up h10, up h11, hy, hC⟩
theorem t_numN (a : Int) (w : World) : Calls Try.prog 10 #[.int .i64 a] w fun e w' => e = .returned (.int .i64 a) ∧ w = w' := by
 go_enter Try.func10, Try.ntmps10
 go_wp2
 go_ret
 exact ⟨rfl, rfl⟩
set_option maxHeartbeats 8000000 in
set_option maxRecDepth 100000 in
theorem gangwaylaw13_TreeNames.walk (k : Nat) (A0 : Option Addr) (c0 : Nat) (l0 : List S45) (A1 : Option Addr) (c1 : Nat) (l1 : List S38) (w : World) (hr0 : Kd.C k45 w A0 l0.length l0) (hc0 : l0.length ≤ c0) (hr1 : Kd.C k38 w A1 l1.length l1) (hc1 : l1.length ≤ c1)
  (hv m : Bool) (hH : zaT.f k l0 l1 = some hv) (hM : hv = false → zau.f k l0 = some m) (hT : hv = false → m = true → za1.f k = some true ∧ ∀ n : Nat, n < l1.length → NamesAt k l0 (zaG l1 (n : Int)).f2 (zaG l1 (n : Int)).f4 (zaG l1 (n : Int)).f5 (zaG l1 (n : Int)).f11) :
  Calls Try.prog 6 #[.agg #[.slice A0 l0.length c0, .slice A1 l1.length c1]] w fun e w' => e = .returned (.bool true) ∧ Below w.heap.size w w' := by
 have HR0 := zab.mk hr0
 have HC0 := zab.mk hc0
 have HR1 := zab.mk hr1
 have HC1 := zab.mk hc1
 have HH := zab.mk hH
 have HM := zab.mk hM
 have HT := zab.mk hT
 have hut := Try.underlying24
 have hus := Try.underlying27
 have hun := Try.underlying45
 have HB := zab.mk (zac (Below.refl w.heap.size w) (.cells #[.slice A0 l0.length c0, .slice A1 l1.length c1] 27))
 have HBS := zab.mk (zbp w (.cells #[.slice A0 l0.length c0, .slice A1 l1.length c1] 27))
 clear hr0 hc0 hr1 hc1 hH hM hT
 cases hv with
 | true =>
  clear HT HM
  go_enter Try.func6, Try.ntmps6
  go_wp2_with (first | (go_at_call 8; refine (zaT.calls k _ c0 l0 A1 c1 l1 _ _ (Kd.C_below HR0.out HB.out) HC0.out (Kd.C_below HR1.out HB.out) HC1.out HH.out).mono ?_; rintro e w1 ⟨rfl, hb⟩; have HBn := zab.mk (zak HB.out hb); have HSn := zab.mk (zas HBS.out hb); clear HB HBS hb; have HB := HBn; have HBS := HSn; clear HBn HSn; obtain ⟨hs0, hs1⟩ := zbi HBS.out))
  go_ret
  exact ⟨rfl, HB.out⟩
 | false =>
  have HMY := zab.mk (HM.out rfl)
  clear HM
  cases m with
  | false =>
   clear HT
   go_enter Try.func6, Try.ntmps6
   go_wp2_with (first | (go_at_call 8; refine (zaT.calls k _ c0 l0 A1 c1 l1 _ _ (Kd.C_below HR0.out HB.out) HC0.out (Kd.C_below HR1.out HB.out) HC1.out HH.out).mono ?_; rintro e w1 ⟨rfl, hb⟩; have HBn := zab.mk (zak HB.out hb); have HSn := zab.mk (zas HBS.out hb); clear HB HBS hb; have HB := HBn; have HBS := HSn; clear HBn HSn; obtain ⟨hs0, hs1⟩ := zbi HBS.out) | (go_at_call 12; refine (zau.calls k _ c0 l0 _ _ (Kd.C_below HR0.out HB.out) HC0.out HMY.out).mono ?_; rintro e w1 ⟨rfl, hb⟩; have HBn := zab.mk (zak HB.out hb); have HSn := zab.mk (zas HBS.out hb); clear HB HBS hb; have HB := HBn; have HBS := HSn; clear HBn HSn))
   go_ret
   exact ⟨rfl, HB.out⟩
  | true =>
   obtain ⟨hwk, hfr⟩ := HT.out rfl rfl
   have HWK := zab.mk hwk
   have HFA := zab.mk hfr
   have HNUM : zab (∀ x, zbc.f x = some x) := ⟨fun _ => rfl⟩
   clear HT hwk hfr
   go_enter Try.func6, Try.ntmps6
   go_wp2_with (first | (go_at_call 8; refine (zaT.calls k _ c0 l0 A1 c1 l1 _ _ (Kd.C_below HR0.out HB.out) HC0.out (Kd.C_below HR1.out HB.out) HC1.out HH.out).mono ?_; rintro e w1 ⟨rfl, hb⟩; have HBn := zab.mk (zak HB.out hb); have HSn := zab.mk (zas HBS.out hb); clear HB HBS hb; have HB := HBn; have HBS := HSn; clear HBn HSn; obtain ⟨hs0, hs1⟩ := zbi HBS.out) | (go_at_call 12; refine (zau.calls k _ c0 l0 _ _ (Kd.C_below HR0.out HB.out) HC0.out HMY.out).mono ?_; rintro e w1 ⟨rfl, hb⟩; have HBn := zab.mk (zak HB.out hb); have HSn := zab.mk (zas HBS.out hb); clear HB HBS hb; have HB := HBn; have HBS := HSn; clear HBn HSn))
   clear hs0 hs1
   go_loopg [3] 5 (fun gk v3 w' => ∃ n : Nat, n ≤ l1.length ∧ n ≤ 5 ∧ gk = 5 - n ∧ v3 = .int .i64 n ∧ zab (w'.heap[w.heap.size]? = some (.cells #[.slice A0 l0.length c0, .slice A1 l1.length c1] 27 (0, 0))) ∧ zab (Below w.heap.size w w'))
   case atStart => exact ⟨0, Nat.zero_le _, Nat.zero_le _, rfl, rfl, HBS, HB⟩
   case round =>
    clear HBS HB
    obtain ⟨n, hn, hn6, hgk, rfl, HBS, HB⟩ := hrel
    obtain ⟨hs0, hs1⟩ := zbi HBS.out
    have hmax := HR1.out.2.1
    by_cases hlt : n < l1.length
    ·by_cases h6 : n < 5
     ·have HNA := zab.mk (HFA.out n hlt)
      obtain ⟨aa, X, y, rfl, hx0, hx1, hx2, hx3, hx4, hx5, hx6, hx7, hx8, hx9, hx10, hx11, _, _⟩ := act_cellsN HR1.out HB.out n hlt
      go_upto_region 7 with (fail)
      have HS := zab.mk (zaj HBS.out (.cells #[.int .i64 (zaG l1 n).f0, .int .i64 (zaG l1 n).f1, .int .i64 (zaG l1 n).f2, .int .i64 (zaG l1 n).f3, .string (zaG l1 n).f4, .string (zaG l1 n).f5, .int .i64 (zaG l1 n).f6, .bool (zaG l1 n).f7, .int .i64 (zaG l1 n).f8, .int .i64 (zaG l1 n).f9, .slice X (zaG l1 n).f10.length y, .int .i64 (zaG l1 n).f11] 38))
      have HT := zab.mk (zbp wr (.cells #[.int .i64 (zaG l1 n).f0, .int .i64 (zaG l1 n).f1, .int .i64 (zaG l1 n).f2, .int .i64 (zaG l1 n).f3, .string (zaG l1 n).f4, .string (zaG l1 n).f5, .int .i64 (zaG l1 n).f6, .bool (zaG l1 n).f7, .int .i64 (zaG l1 n).f8, .int .i64 (zaG l1 n).f9, .slice X (zaG l1 n).f10.length y, .int .i64 (zaG l1 n).f11] 38))
      replace HB := zab.mk (zac HB.out (.cells #[.int .i64 (zaG l1 n).f0, .int .i64 (zaG l1 n).f1, .int .i64 (zaG l1 n).f2, .int .i64 (zaG l1 n).f3, .string (zaG l1 n).f4, .string (zaG l1 n).f5, .int .i64 (zaG l1 n).f6, .bool (zaG l1 n).f7, .int .i64 (zaG l1 n).f8, .int .i64 (zaG l1 n).f9, .slice X (zaG l1 n).f10.length y, .int .i64 (zaG l1 n).f11] 38))
      clear HBS hs0 hs1 hx0 hx1 hx2 hx3 hx4 hx5 hx6 hx7 hx8 hx9 hx10 hx11
      obtain ⟨t, m, e0, hmk, hn2⟩ := HNA.out
      have HMK := zab.mk hmk
      have HN2 := zab.mk hn2
      clear hmk hn2 HNA
      obtain ⟨hs0, hs1⟩ := zbi HS.out
      have ht2 := (zah HT.out 2).trans rfl
      have ht4 := (zah HT.out 4).trans rfl
      have ht5 := (zah HT.out 5).trans rfl
      have ht11 := (zah HT.out 11).trans rfl
      go_wp2_with (first | (go_at_call 10; refine (t_numN _ _).mono ?_; rintro e w' ⟨rfl, rfl⟩))
      refine (zbo.calls k _ c0 l0 (zaG l1 n).f2 (zaG l1 n).f4 1 ⟨#[]⟩ (zaG l1 n).f11 t m e0 _ (Kd.C_below HR0.out HB.out) HC0.out HMK.out).mono ?_
      rintro e' w8 ⟨vt, rfl, hS, hb⟩
      obtain ⟨At, ct, rfl, hc, hC⟩ := Kd.S_reads hS
      have HCt := zab.mk hC
      have HEt := zab.mk hc
      clear hS hc hC
      clear hs0 hs1 ht2 ht4 ht5 ht11
      replace HS := zab.mk (zas (by repeat (first | exact HS.out | apply zal | apply zaj | apply zam)) hb)
      replace HT := zab.mk (zas (by repeat (first | exact HT.out | apply zal | apply zaj | apply zam)) hb)
      replace HB := zab.mk (zak (by repeat (first | exact HB.out | apply zac | apply zaa | apply zad | apply zaM)) hb)
      clear hb
      obtain ⟨hs0, hs1⟩ := zbi HS.out
      have ht2 := (zah HT.out 2).trans rfl
      have ht4 := (zah HT.out 4).trans rfl
      have ht5 := (zah HT.out 5).trans rfl
      have ht11 := (zah HT.out 11).trans rfl
      go_upto_region 8 with fail
      clear hs0 hs1 ht2 ht4 ht5 ht11
      replace HS := zab.mk (zaj HS.out (.cells #[.slice At t.length ct] 24))
      replace HT := zab.mk (zaj HT.out (.cells #[.slice At t.length ct] 24))
      replace HB := zab.mk (zac HB.out (.cells #[.slice At t.length ct] 24))
      replace HCt := zab.mk (Kd.C_alloc HCt.out (.cells #[.slice At t.length ct] 24))
      have HUt := zab.mk (zbp w8 (.cells #[.slice At t.length ct] 24))
      obtain ⟨hs0, hs1⟩ := zbi HS.out
      have ht2 := (zah HT.out 2).trans rfl
      have ht4 := (zah HT.out 4).trans rfl
      have ht5 := (zah HT.out 5).trans rfl
      have ht11 := (zah HT.out 11).trans rfl
      have hqt := one_cell HUt.out
      by_cases z0 : e0 = 0
      ·obtain rfl := z0
       as_aux_lemma =>
        obtain ⟨hf1, u, g, wn, was, hrn, hf2, hn3, wl, g2, hlk, hn4⟩ := HN2.out rfl
        have HF1 := zab.mk hf1
        have HRN := zab.mk hrn
        have HF2 := zab.mk hf2
        have HN3 := zab.mk hn3
        have HLK := zab.mk hlk
        have HN4 := zab.mk hn4
        clear hf1 hrn hf2 hn3 hlk hn4 HN2 HMK
        have mm : (m != m) = false := by simp
        go_wp2_with (first | (go_at_call 10; refine (t_numN _ _).mono ?_; rintro e w' ⟨rfl, rfl⟩))
        refine (zbv.calls k At ct t (zaG l1 n).f2 (zaG l1 n).f4 m 0 _ HCt.out HEt.out HF1.out).mono ?_
        rintro e' w9 ⟨rfl, hb⟩
        clear hs0 hs1 ht2 ht4 ht5 ht11 hqt
        replace HS := zab.mk (zas (by repeat (first | exact HS.out | apply zal | apply zaj | apply zam)) hb)
        replace HT := zab.mk (zas (by repeat (first | exact HT.out | apply zal | apply zaj | apply zam)) hb)
        replace HB := zab.mk (zak (by repeat (first | exact HB.out | apply zac | apply zaa | apply zad | apply zaM)) hb)
        replace HCt := zab.mk (Kd.C_below (by repeat (first | exact HCt.out | apply Kd.C_alloc | apply Kd.C_drew)) hb)
        replace HUt := zab.mk (zas (by repeat (first | exact HUt.out | apply zal | apply zaj | apply zam)) hb)
        clear hb
        obtain ⟨hs0, hs1⟩ := zbi HS.out
        have ht2 := (zah HT.out 2).trans rfl
        have ht4 := (zah HT.out 4).trans rfl
        have ht5 := (zah HT.out 5).trans rfl
        have ht11 := (zah HT.out 11).trans rfl
        have hqt := one_cell HUt.out
        go_wp2_with (first | (go_at_call 10; refine (t_numN _ _).mono ?_; rintro e w' ⟨rfl, rfl⟩))
        refine (zb3.calls k At ct t (zaG l1 n).f2 (zaG l1 n).f4 (zaG l1 n).f2 (zaG l1 n).f5 (zaG l1 n).f11 u g _ HCt.out HEt.out HRN.out).mono ?_
        rintro e' w10 ⟨vu, rfl, hS, hb⟩
        obtain ⟨Au, cu, rfl, hc, hC⟩ := Kd.S_reads hS
        have HCu := zab.mk hC
        have HEu := zab.mk hc
        clear hS hc hC
        clear hs0 hs1 ht2 ht4 ht5 ht11 hqt
        replace HS := zab.mk (zas (by repeat (first | exact HS.out | apply zal | apply zaj | apply zam)) hb)
        replace HT := zab.mk (zas (by repeat (first | exact HT.out | apply zal | apply zaj | apply zam)) hb)
        replace HB := zab.mk (zak (by repeat (first | exact HB.out | apply zac | apply zaa | apply zad | apply zaM)) hb)
        replace HCt := zab.mk (Kd.C_below (by repeat (first | exact HCt.out | apply Kd.C_alloc | apply Kd.C_drew)) hb)
        replace HUt := zab.mk (zas (by repeat (first | exact HUt.out | apply zal | apply zaj | apply zam)) hb)
        clear hb
        obtain ⟨hs0, hs1⟩ := zbi HS.out
        have ht2 := (zah HT.out 2).trans rfl
        have ht4 := (zah HT.out 4).trans rfl
        have ht5 := (zah HT.out 5).trans rfl
        have ht11 := (zah HT.out 11).trans rfl
        have hqt := one_cell HUt.out
        go_upto_region 13 with fail
        clear hs0 hs1 ht2 ht4 ht5 ht11 hqt
        replace HS := zab.mk (zaj HS.out (.cells #[.slice Au u.length cu] 24))
        replace HT := zab.mk (zaj HT.out (.cells #[.slice Au u.length cu] 24))
        replace HB := zab.mk (zac HB.out (.cells #[.slice Au u.length cu] 24))
        replace HCt := zab.mk (Kd.C_alloc HCt.out (.cells #[.slice Au u.length cu] 24))
        replace HUt := zab.mk (zaj HUt.out (.cells #[.slice Au u.length cu] 24))
        replace HCu := zab.mk (Kd.C_alloc HCu.out (.cells #[.slice Au u.length cu] 24))
        have HUu := zab.mk (zbp w10 (.cells #[.slice Au u.length cu] 24))
        obtain ⟨hs0, hs1⟩ := zbi HS.out
        have ht2 := (zah HT.out 2).trans rfl
        have ht4 := (zah HT.out 4).trans rfl
        have ht5 := (zah HT.out 5).trans rfl
        have ht11 := (zah HT.out 11).trans rfl
        have hqt := one_cell HUt.out
        have hqu := one_cell HUu.out
        go_wp2_with (first | (go_at_call 10; refine (t_numN _ _).mono ?_; rintro e w' ⟨rfl, rfl⟩))
        refine (zbv.calls k At ct t (zaG l1 n).f2 (zaG l1 n).f5 wn was _ HCt.out HEt.out HF2.out).mono ?_
        rintro e' w11 ⟨rfl, hb⟩
        clear hs0 hs1 ht2 ht4 ht5 ht11 hqt hqu
        replace HS := zab.mk (zas (by repeat (first | exact HS.out | apply zal | apply zaj | apply zam)) hb)
        replace HT := zab.mk (zas (by repeat (first | exact HT.out | apply zal | apply zaj | apply zam)) hb)
        replace HB := zab.mk (zak (by repeat (first | exact HB.out | apply zac | apply zaa | apply zad | apply zaM)) hb)
        replace HCt := zab.mk (Kd.C_below (by repeat (first | exact HCt.out | apply Kd.C_alloc | apply Kd.C_drew)) hb)
        replace HUt := zab.mk (zas (by repeat (first | exact HUt.out | apply zal | apply zaj | apply zam)) hb)
        replace HCu := zab.mk (Kd.C_below (by repeat (first | exact HCu.out | apply Kd.C_alloc | apply Kd.C_drew)) hb)
        replace HUu := zab.mk (zas (by repeat (first | exact HUu.out | apply zal | apply zaj | apply zam)) hb)
        clear hb
        obtain ⟨hs0, hs1⟩ := zbi HS.out
        have ht2 := (zah HT.out 2).trans rfl
        have ht4 := (zah HT.out 4).trans rfl
        have ht5 := (zah HT.out 5).trans rfl
        have ht11 := (zah HT.out 11).trans rfl
        have hqt := one_cell HUt.out
        have hqu := one_cell HUu.out
        go_upto_region 14 with fail
        obtain ⟨b, hbd⟩ : ∃ b : Bool, (b = true ↔ g = 0 ∧ was = 44) := ⟨decide (g = 0 ∧ was = 44), by simp⟩
        have HBD := zab.mk hbd
        clear hbd
        go_cut [115] (fun v115 wc => v115 = .bool b ∧ w11 = wc)
        case first =>
         as_aux_lemma =>
          by_cases g0 : g = 0
          ·obtain rfl := g0
           by_cases w0 : was = 44
           ·obtain rfl := w0
            have hb1 : b = true := HBD.out.2 ⟨rfl, rfl⟩
            subst hb1
            go_wp2_with (first | (go_at_call 10; refine (t_numN _ _).mono ?_; rintro e w' ⟨rfl, rfl⟩))
            go_meet
            case rel => exact ⟨rfl, rfl⟩
           ·have hb1 : b = false := Bool.eq_false_iff.2 fun q => w0 (HBD.out.1 q).2
            subst hb1
            have w1 : (was == 44) = false := by simpa using w0
            clear w0
            go_wp2_with (first | (go_at_call 10; refine (t_numN _ _).mono ?_; rintro e w' ⟨rfl, rfl⟩))
            go_meet
            case rel => exact ⟨rfl, rfl⟩
          ·have hb1 : b = false := Bool.eq_false_iff.2 fun q => g0 (HBD.out.1 q).1
           subst hb1
           have g1 : (g == 0) = false := by simpa using g0
           clear g0
           go_wp2_with (first | (go_at_call 10; refine (t_numN _ _).mono ?_; rintro e w' ⟨rfl, rfl⟩))
           go_meet
           case rel => exact ⟨rfl, rfl⟩
        case rest =>
         obtain ⟨rfl, rfl⟩ := hcut
         go_upto_if 115 with fail
         go_cut [] (fun wc => zab (wc.heap[w.heap.size]? = some (.cells #[.slice A0 l0.length c0, .slice (some aa) l1.length c1] 27 (0, 0))) ∧ zab (wc.heap[wr.heap.size]? = some (.cells #[.int .i64 (zaG l1 n).f0, .int .i64 (zaG l1 n).f1, .int .i64 (zaG l1 n).f2, .int .i64 (zaG l1 n).f3, .string (zaG l1 n).f4, .string (zaG l1 n).f5, .int .i64 (zaG l1 n).f6, .bool (zaG l1 n).f7, .int .i64 (zaG l1 n).f8, .int .i64 (zaG l1 n).f9, .slice X (zaG l1 n).f10.length y, .int .i64 (zaG l1 n).f11] 38 (0, 0))) ∧ zab (Below w.heap.size w wc) ∧ zab (wc.heap[w8.heap.size]? = some (.cells #[.slice At t.length ct] 24 (0, 0))) ∧ zab (Kd.C k45 wc At t.length t))
         case first =>
          cases b with
          | false =>
           go_wp2
           go_meet
           case rel => exact ⟨HS, HT, HB, HUt, HCt⟩
          | true =>
           as_aux_lemma =>
            obtain ⟨hf3, ⟨j, hf4⟩, v, hrv, heq⟩ := HN3.out (HBD.out.1 rfl).1 (HBD.out.1 rfl).2
            have HF3 := zab.mk hf3
            have HF4 := zab.mk hf4
            have HRV := zab.mk hrv
            have HEQ := zab.mk heq
            clear hf3 hf4 hrv heq HN3 HLK HN4
            go_wp2_with (first | (go_at_call 10; refine (t_numN _ _).mono ?_; rintro e w' ⟨rfl, rfl⟩))
            refine (zbv.calls k Au cu u (zaG l1 n).f2 (zaG l1 n).f5 m 0 _ HCu.out HEu.out HF3.out).mono ?_
            rintro e' w12 ⟨rfl, hb⟩
            clear hs0 hs1 ht2 ht4 ht5 ht11 hqt hqu
            replace HS := zab.mk (zas (by repeat (first | exact HS.out | apply zal | apply zaj | apply zam)) hb)
            replace HT := zab.mk (zas (by repeat (first | exact HT.out | apply zal | apply zaj | apply zam)) hb)
            replace HB := zab.mk (zak (by repeat (first | exact HB.out | apply zac | apply zaa | apply zad | apply zaM)) hb)
            replace HCt := zab.mk (Kd.C_below (by repeat (first | exact HCt.out | apply Kd.C_alloc | apply Kd.C_drew)) hb)
            replace HUt := zab.mk (zas (by repeat (first | exact HUt.out | apply zal | apply zaj | apply zam)) hb)
            replace HCu := zab.mk (Kd.C_below (by repeat (first | exact HCu.out | apply Kd.C_alloc | apply Kd.C_drew)) hb)
            replace HUu := zab.mk (zas (by repeat (first | exact HUu.out | apply zal | apply zaj | apply zam)) hb)
            clear hb
            obtain ⟨hs0, hs1⟩ := zbi HS.out
            have ht2 := (zah HT.out 2).trans rfl
            have ht4 := (zah HT.out 4).trans rfl
            have ht5 := (zah HT.out 5).trans rfl
            have ht11 := (zah HT.out 11).trans rfl
            have hqt := one_cell HUt.out
            have hqu := one_cell HUu.out
            go_wp2_with (first | (go_at_call 10; refine (t_numN _ _).mono ?_; rintro e w' ⟨rfl, rfl⟩))
            refine (zbv.calls k Au cu u (zaG l1 n).f2 (zaG l1 n).f4 j 44 _ HCu.out HEu.out HF4.out).mono ?_
            rintro e' w13 ⟨rfl, hb⟩
            clear hs0 hs1 ht2 ht4 ht5 ht11 hqt hqu
            replace HS := zab.mk (zas (by repeat (first | exact HS.out | apply zal | apply zaj | apply zam)) hb)
            replace HT := zab.mk (zas (by repeat (first | exact HT.out | apply zal | apply zaj | apply zam)) hb)
            replace HB := zab.mk (zak (by repeat (first | exact HB.out | apply zac | apply zaa | apply zad | apply zaM)) hb)
            replace HCt := zab.mk (Kd.C_below (by repeat (first | exact HCt.out | apply Kd.C_alloc | apply Kd.C_drew)) hb)
            replace HUt := zab.mk (zas (by repeat (first | exact HUt.out | apply zal | apply zaj | apply zam)) hb)
            replace HCu := zab.mk (Kd.C_below (by repeat (first | exact HCu.out | apply Kd.C_alloc | apply Kd.C_drew)) hb)
            replace HUu := zab.mk (zas (by repeat (first | exact HUu.out | apply zal | apply zaj | apply zam)) hb)
            clear hb
            obtain ⟨hs0, hs1⟩ := zbi HS.out
            have ht2 := (zah HT.out 2).trans rfl
            have ht4 := (zah HT.out 4).trans rfl
            have ht5 := (zah HT.out 5).trans rfl
            have ht11 := (zah HT.out 11).trans rfl
            have hqt := one_cell HUt.out
            have hqu := one_cell HUu.out
            go_wp2_with (first | (go_at_call 10; refine (t_numN _ _).mono ?_; rintro e w' ⟨rfl, rfl⟩))
            refine (zb3.calls k Au cu u (zaG l1 n).f2 (zaG l1 n).f5 (zaG l1 n).f2 (zaG l1 n).f4 (zaG l1 n).f11 v 0 _ HCu.out HEu.out HRV.out).mono ?_
            rintro e' w14 ⟨vv, rfl, hS, hb⟩
            obtain ⟨Av, cv, rfl, hc, hC⟩ := Kd.S_reads hS
            have HCv := zab.mk hC
            have HEv := zab.mk hc
            clear hS hc hC
            clear hs0 hs1 ht2 ht4 ht5 ht11 hqt hqu
            replace HS := zab.mk (zas (by repeat (first | exact HS.out | apply zal | apply zaj | apply zam)) hb)
            replace HT := zab.mk (zas (by repeat (first | exact HT.out | apply zal | apply zaj | apply zam)) hb)
            replace HB := zab.mk (zak (by repeat (first | exact HB.out | apply zac | apply zaa | apply zad | apply zaM)) hb)
            replace HCt := zab.mk (Kd.C_below (by repeat (first | exact HCt.out | apply Kd.C_alloc | apply Kd.C_drew)) hb)
            replace HUt := zab.mk (zas (by repeat (first | exact HUt.out | apply zal | apply zaj | apply zam)) hb)
            replace HCu := zab.mk (Kd.C_below (by repeat (first | exact HCu.out | apply Kd.C_alloc | apply Kd.C_drew)) hb)
            replace HUu := zab.mk (zas (by repeat (first | exact HUu.out | apply zal | apply zaj | apply zam)) hb)
            clear hb
            obtain ⟨hs0, hs1⟩ := zbi HS.out
            have ht2 := (zah HT.out 2).trans rfl
            have ht4 := (zah HT.out 4).trans rfl
            have ht5 := (zah HT.out 5).trans rfl
            have ht11 := (zah HT.out 11).trans rfl
            have hqt := one_cell HUt.out
            have hqu := one_cell HUu.out
            go_upto_region 18 with fail
            clear hs0 hs1 ht2 ht4 ht5 ht11 hqt hqu
            replace HS := zab.mk (zaj HS.out (.cells #[.slice Av v.length cv] 24))
            replace HT := zab.mk (zaj HT.out (.cells #[.slice Av v.length cv] 24))
            replace HB := zab.mk (zac HB.out (.cells #[.slice Av v.length cv] 24))
            replace HCt := zab.mk (Kd.C_alloc HCt.out (.cells #[.slice Av v.length cv] 24))
            replace HUt := zab.mk (zaj HUt.out (.cells #[.slice Av v.length cv] 24))
            replace HCu := zab.mk (Kd.C_alloc HCu.out (.cells #[.slice Av v.length cv] 24))
            replace HUu := zab.mk (zaj HUu.out (.cells #[.slice Av v.length cv] 24))
            replace HCv := zab.mk (Kd.C_alloc HCv.out (.cells #[.slice Av v.length cv] 24))
            have HUv := zab.mk (zbp w14 (.cells #[.slice Av v.length cv] 24))
            obtain ⟨hs0, hs1⟩ := zbi HS.out
            have ht2 := (zah HT.out 2).trans rfl
            have ht4 := (zah HT.out 4).trans rfl
            have ht5 := (zah HT.out 5).trans rfl
            have ht11 := (zah HT.out 11).trans rfl
            have hqt := one_cell HUt.out
            have hqu := one_cell HUu.out
            have hqv := one_cell HUv.out
            clear hqu HCu HUu HEu
            go_wp2_with (first | (go_at_call 10; refine (t_numN _ _).mono ?_; rintro e w' ⟨rfl, rfl⟩))
            refine (zbD.calls k Av cv v At ct t true _ HCv.out HEv.out HCt.out HEt.out HEQ.out).mono ?_
            rintro e' w15 ⟨rfl, hb⟩
            clear hs0 hs1 ht2 ht4 ht5 ht11 hqt hqv
            replace HS := zab.mk (zas (by repeat (first | exact HS.out | apply zal | apply zaj | apply zam)) hb)
            replace HT := zab.mk (zas (by repeat (first | exact HT.out | apply zal | apply zaj | apply zam)) hb)
            replace HB := zab.mk (zak (by repeat (first | exact HB.out | apply zac | apply zaa | apply zad | apply zaM)) hb)
            replace HCt := zab.mk (Kd.C_below (by repeat (first | exact HCt.out | apply Kd.C_alloc | apply Kd.C_drew)) hb)
            replace HUt := zab.mk (zas (by repeat (first | exact HUt.out | apply zal | apply zaj | apply zam)) hb)
            replace HCv := zab.mk (Kd.C_below (by repeat (first | exact HCv.out | apply Kd.C_alloc | apply Kd.C_drew)) hb)
            replace HUv := zab.mk (zas (by repeat (first | exact HUv.out | apply zal | apply zaj | apply zam)) hb)
            clear hb
            go_wp2
            go_meet
            case rel => exact ⟨HS, HT, HB, HUt, HCt⟩
         case rest =>
          clear HS HT HB HUt HCt HUu HCu HEu HN3 HBD hs0 hs1 ht2 ht4 ht5 ht11 hqt hqu
          obtain ⟨HS, HT, HB, HUt, HCt⟩ := hcut
          as_aux_lemma =>
           obtain ⟨hs0, hs1⟩ := zbi HS.out
           have ht2 := (zah HT.out 2).trans rfl
           have ht4 := (zah HT.out 4).trans rfl
           have ht5 := (zah HT.out 5).trans rfl
           have ht11 := (zah HT.out 11).trans rfl
           have hqt := one_cell HUt.out
           go_wp2_with (first | (go_at_call 10; refine (t_numN _ _).mono ?_; rintro e w' ⟨rfl, rfl⟩))
           refine (tree_Link.calls k At ct t m (zaG l1 n).f2 (zaG l1 n).f5 (zaG l1 n).f11 wl g2 _ HCt.out HEt.out HLK.out).mono ?_
           rintro e' w20 ⟨vl, rfl, hS, hb⟩
           obtain ⟨Al, cl, rfl, hc, hC⟩ := Kd.S_reads hS
           have HCl := zab.mk hC
           have HEl := zab.mk hc
           clear hS hc hC
           clear hs0 hs1 ht2 ht4 ht5 ht11 hqt
           replace HS := zab.mk (zas (by repeat (first | exact HS.out | apply zal | apply zaj | apply zam)) hb)
           replace HT := zab.mk (zas (by repeat (first | exact HT.out | apply zal | apply zaj | apply zam)) hb)
           replace HB := zab.mk (zak (by repeat (first | exact HB.out | apply zac | apply zaa | apply zad | apply zaM)) hb)
           replace HCt := zab.mk (Kd.C_below (by repeat (first | exact HCt.out | apply Kd.C_alloc | apply Kd.C_drew)) hb)
           replace HUt := zab.mk (zas (by repeat (first | exact HUt.out | apply zal | apply zaj | apply zam)) hb)
           clear hb
           obtain ⟨hs0, hs1⟩ := zbi HS.out
           have ht2 := (zah HT.out 2).trans rfl
           have ht4 := (zah HT.out 4).trans rfl
           have ht5 := (zah HT.out 5).trans rfl
           have ht11 := (zah HT.out 11).trans rfl
           have hqt := one_cell HUt.out
           go_upto_region 21 with fail
           clear hs0 hs1 ht2 ht4 ht5 ht11 hqt
           replace HS := zab.mk (zaj HS.out (.cells #[.slice Al wl.length cl] 24))
           replace HT := zab.mk (zaj HT.out (.cells #[.slice Al wl.length cl] 24))
           replace HB := zab.mk (zac HB.out (.cells #[.slice Al wl.length cl] 24))
           replace HCt := zab.mk (Kd.C_alloc HCt.out (.cells #[.slice Al wl.length cl] 24))
           replace HUt := zab.mk (zaj HUt.out (.cells #[.slice Al wl.length cl] 24))
           replace HCl := zab.mk (Kd.C_alloc HCl.out (.cells #[.slice Al wl.length cl] 24))
           have HUl := zab.mk (zbp w20 (.cells #[.slice Al wl.length cl] 24))
           obtain ⟨hs0, hs1⟩ := zbi HS.out
           have ht2 := (zah HT.out 2).trans rfl
           have ht4 := (zah HT.out 4).trans rfl
           have ht5 := (zah HT.out 5).trans rfl
           have ht11 := (zah HT.out 11).trans rfl
           have hqt := one_cell HUt.out
           have hql := one_cell HUl.out
           clear hqt HCt HUt HEt
           by_cases g0 : g2 = 0
           ·obtain rfl := g0
            as_aux_lemma =>
             obtain ⟨hf5, x, hul, hf6, hm0, hm1, hm4⟩ := HN4.out rfl
             have HF5 := zab.mk hf5
             have HUL := zab.mk hul
             have HF6 := zab.mk hf6
             have HM4 := zab.mk hm4
             clear hf5 hul hf6 hm4 HN4 HLK
             go_wp2_with (first | (go_at_call 10; refine (t_numN _ _).mono ?_; rintro e w' ⟨rfl, rfl⟩))
             refine (zbv.calls k Al cl wl (zaG l1 n).f2 (zaG l1 n).f5 m 0 _ HCl.out HEl.out HF5.out).mono ?_
             rintro e' w21 ⟨rfl, hb⟩
             clear hs0 hs1 ht2 ht4 ht5 ht11 hql
             replace HS := zab.mk (zas (by repeat (first | exact HS.out | apply zal | apply zaj | apply zam)) hb)
             replace HT := zab.mk (zas (by repeat (first | exact HT.out | apply zal | apply zaj | apply zam)) hb)
             replace HB := zab.mk (zak (by repeat (first | exact HB.out | apply zac | apply zaa | apply zad | apply zaM)) hb)
             replace HCl := zab.mk (Kd.C_below (by repeat (first | exact HCl.out | apply Kd.C_alloc | apply Kd.C_drew)) hb)
             replace HUl := zab.mk (zas (by repeat (first | exact HUl.out | apply zal | apply zaj | apply zam)) hb)
             clear hb
             obtain ⟨hs0, hs1⟩ := zbi HS.out
             have ht2 := (zah HT.out 2).trans rfl
             have ht4 := (zah HT.out 4).trans rfl
             have ht5 := (zah HT.out 5).trans rfl
             have ht11 := (zah HT.out 11).trans rfl
             have hql := one_cell HUl.out
             go_wp2_with (first | (go_at_call 10; refine (t_numN _ _).mono ?_; rintro e w' ⟨rfl, rfl⟩))
             refine (tree_Unlink.calls k Al cl wl (zaG l1 n).f2 (zaG l1 n).f4 false (zaG l1 n).f11 x 0 _ HCl.out HEl.out HUL.out).mono ?_
             rintro e' w22 ⟨vx, rfl, hS, hb⟩
             obtain ⟨Ax, cx, rfl, hc, hC⟩ := Kd.S_reads hS
             have HCx := zab.mk hC
             have HEx := zab.mk hc
             clear hS hc hC
             clear hs0 hs1 ht2 ht4 ht5 ht11 hql
             replace HS := zab.mk (zas (by repeat (first | exact HS.out | apply zal | apply zaj | apply zam)) hb)
             replace HT := zab.mk (zas (by repeat (first | exact HT.out | apply zal | apply zaj | apply zam)) hb)
             replace HB := zab.mk (zak (by repeat (first | exact HB.out | apply zac | apply zaa | apply zad | apply zaM)) hb)
             replace HCl := zab.mk (Kd.C_below (by repeat (first | exact HCl.out | apply Kd.C_alloc | apply Kd.C_drew)) hb)
             replace HUl := zab.mk (zas (by repeat (first | exact HUl.out | apply zal | apply zaj | apply zam)) hb)
             clear hb
             obtain ⟨hs0, hs1⟩ := zbi HS.out
             have ht2 := (zah HT.out 2).trans rfl
             have ht4 := (zah HT.out 4).trans rfl
             have ht5 := (zah HT.out 5).trans rfl
             have ht11 := (zah HT.out 11).trans rfl
             have hql := one_cell HUl.out
             go_upto_region 24 with fail
             clear hs0 hs1 ht2 ht4 ht5 ht11 hql
             replace HS := zab.mk (zaj HS.out (.cells #[.slice Ax x.length cx] 24))
             replace HT := zab.mk (zaj HT.out (.cells #[.slice Ax x.length cx] 24))
             replace HB := zab.mk (zac HB.out (.cells #[.slice Ax x.length cx] 24))
             replace HCl := zab.mk (Kd.C_alloc HCl.out (.cells #[.slice Ax x.length cx] 24))
             replace HUl := zab.mk (zaj HUl.out (.cells #[.slice Ax x.length cx] 24))
             replace HCx := zab.mk (Kd.C_alloc HCx.out (.cells #[.slice Ax x.length cx] 24))
             have HUx := zab.mk (zbp w22 (.cells #[.slice Ax x.length cx] 24))
             obtain ⟨hs0, hs1⟩ := zbi HS.out
             have ht2 := (zah HT.out 2).trans rfl
             have ht4 := (zah HT.out 4).trans rfl
             have ht5 := (zah HT.out 5).trans rfl
             have ht11 := (zah HT.out 11).trans rfl
             have hql := one_cell HUl.out
             have hqx := one_cell HUx.out
             clear hql HCl HUl HEl
             go_wp2_with (first | (go_at_call 10; refine (t_numN _ _).mono ?_; rintro e w' ⟨rfl, rfl⟩))
             refine (zbv.calls k Ax cx x (zaG l1 n).f2 (zaG l1 n).f5 m 0 _ HCx.out HEx.out HF6.out).mono ?_
             rintro e' w23 ⟨rfl, hb⟩
             clear hs0 hs1 ht2 ht4 ht5 ht11 hqx
             replace HS := zab.mk (zas (by repeat (first | exact HS.out | apply zal | apply zaj | apply zam)) hb)
             replace HT := zab.mk (zas (by repeat (first | exact HT.out | apply zal | apply zaj | apply zam)) hb)
             replace HB := zab.mk (zak (by repeat (first | exact HB.out | apply zac | apply zaa | apply zad | apply zaM)) hb)
             replace HCx := zab.mk (Kd.C_below (by repeat (first | exact HCx.out | apply Kd.C_alloc | apply Kd.C_drew)) hb)
             replace HUx := zab.mk (zas (by repeat (first | exact HUx.out | apply zal | apply zaj | apply zam)) hb)
             clear hb
             obtain ⟨hs0, hs1⟩ := zbi HS.out
             have ht2 := (zah HT.out 2).trans rfl
             have ht4 := (zah HT.out 4).trans rfl
             have ht5 := (zah HT.out 5).trans rfl
             have ht11 := (zah HT.out 11).trans rfl
             have hqx := one_cell HUx.out
             obtain ⟨ax, _, _, _, _, eAx, _, _, _, _, hl4, _, _, _, _, _⟩ := zbh HCx.out m hm0 hm1
             subst eAx
             rw [HM4.out] at hl4
             have m1 : decide (m < 0) = false := decide_eq_false (by omega)
             have m2 : decide (m ≥ (x.length : Int)) = false := decide_eq_false (by omega)
             have m2' : decide ((x.length : Int) ≤ m) = false := decide_eq_false (by omega)
             have p0 := eq_true hm0
             have p1 := eq_true hm1
             clear hs0 hs1 ht2 ht4 ht5 ht11 hqx
             obtain ⟨hs0, hs1⟩ := zbi HS.out
             have ht2 := (zah HT.out 2).trans rfl
             have ht4 := (zah HT.out 4).trans rfl
             have ht5 := (zah HT.out 5).trans rfl
             have ht11 := (zah HT.out 11).trans rfl
             have hqx := one_cell HUx.out
             go_wp2_with (first | (go_at_call 10; refine (t_numN _ _).mono ?_; rintro e w' ⟨rfl, rfl⟩))
             go_roundg (4 - n)
             case measure => omega
             case rel => exact ⟨n + 1, by omega, by omega, by omega, by go_num, HS, HB⟩
           ·have g1 : (g2 == 0) = false := by simpa using g0
            clear g0
            go_wp2_with (first | (go_at_call 10; refine (t_numN _ _).mono ?_; rintro e w' ⟨rfl, rfl⟩))
            go_roundg (4 - n)
            case measure => omega
            case rel => exact ⟨n + 1, by omega, by omega, by omega, by go_num, HS, HB⟩
      ·have z1 : (e0 != 0) = true := by simpa using z0
       clear z0
       go_wp2_with (first | (go_at_call 10; refine (t_numN _ _).mono ?_; rintro e w' ⟨rfl, rfl⟩))
       go_roundg (4 - n)
       case measure => omega
       case rel => exact ⟨n + 1, by omega, by omega, by omega, by go_num, HS, HB⟩
     ·go_wp2_with (first | (go_at_call 16; refine (za1.calls k true _ HWK.out).mono ?_; rintro e w9 ⟨rfl, hb⟩; have HXn := zab.mk (zak (by repeat (first | exact HB.out | apply zac | apply zaa | apply zad | apply zaM)) hb); clear hb))
      go_ret
      exact ⟨rfl, HXn.out⟩
    ·go_wp2_with (first | (go_at_call 16; refine (za1.calls k true _ HWK.out).mono ?_; rintro e w9 ⟨rfl, hb⟩; have HXn := zab.mk (zak (by repeat (first | exact HB.out | apply zac | apply zaa | apply zad | apply zaM)) hb); clear hb))
     go_ret
     exact ⟨rfl, HXn.out⟩
end Go.Proofs.Ytjghephnjkffcaa.PCk
