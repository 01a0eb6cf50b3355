/- Parts of one proof, merged by a program of this repo: walks over the given program and plain facts. -/
import Derived.Test.YtjghephnjkffcaaMTreeWhole5
import Derived.Test.YtjghephnjkffcaaMTreeWhole10
import Derived.Test.YtjghephnjkffcaaMTreeWhole11
import Derived.Test.YtjghephnjkffcaaMTreeWhole13
import Derived.Test.YtjghephnjkffcaaMTreeWhole16
import Derived.Test.YtjghephnjkffcaaMTreeWhole12
import Derived.Test.YtjghephnjkffcaaMTreeWhole15
import Derived.Test.YtjghephnjkffcaaMTreeWhole4
import Derived.Test.YtjghephnjkffcaaMTreeWhole8
import Derived.Test.YtjghephnjkffcaaMTreeWhole2
import Derived.Deep.LoopGhost
import Derived.Deep.DeepCutAuto
import Derived.Deep.CutBlock
namespace Go.Proofs.Ytjghephnjkffcaa.PCk
open Go.RowKit Go.Proofs.YtjghephnjkffcaaW.PrintWords Go.Proofs.YtjghephnjkffcaaW.PrintLast Go.Proofs.YtjghephnjkffcaaW.PrintMore
attribute [local go_sem] zbV zbT zci zch zbG zbF zbU zbS
set_option linter.unusedVariables false
set_option linter.unusedSimpArgs false
theorem within7 (a : Int) : ∃ d : Int, zbX.f a 7 = some d ∧ 0 ≤ d ∧ d < 7 := by
 have e : IntKind.u64.wrap 7 = 7 := by decide
 have h0 : 0 ≤ IntKind.u64.wrap a := by unfold IntKind.wrap; exact Int.emod_nonneg a (by decide)
 have h1 := Int.emod_nonneg (IntKind.u64.wrap a) (show (7 : Int) ≠ 0 by decide)
 have h2 := Int.emod_lt_of_pos (IntKind.u64.wrap a) (show (0 : Int) < 7 by decide)
 refine ⟨Int.tmod (IntKind.u64.wrap a) 7, ?_, ?_, ?_⟩
 ·unfold zbX.f
  rw [e, if_neg (by decide), Int.tmod_eq_emod_of_nonneg h0]
  unfold wrap64
  congr 1
  omega
 ·rw [Int.tmod_eq_emod_of_nonneg h0]; exact h1
 ·rw [Int.tmod_eq_emod_of_nonneg h0]; exact h2
theorem RenameW_ev {l : List S45} (h : MayP l) (d1 : Int) (s1 : ByteArray) (d2 : Int) (s2 : ByteArray) (now : Int) : ∃ r : List S45 × Int, Ev (fun k => tree_Rename.f k l d1 s1 d2 s2 now) r ∧ (r.2 ≠ 0 → r.1 = l) ∧ (r.2 = 0 → MayP r.1) := by
 obtain ⟨r, h1, h2, h3, _⟩ := Rename_ev h d1 s1 d2 s2 now
 exact ⟨r, h1, h2, h3⟩
theorem act_cellsW {W w : World} {A : Option Addr} {n : Nat} {l : List S38} (h : Kd.C k38 w A n l) (hb : Below w.heap.size w W) (i : Nat) (hi : i < n) : ∃ ad X y, A = some ad ∧ W.cell? (ad.add (i * 12)) = some (.int .i64 (zax l i).f0) ∧ W.cell? ⟨(ad.add (i * 12)).block, (ad.add (i * 12)).off + 1, none⟩ = some (.int .i64 (zax l i).f1) ∧ W.cell? ⟨(ad.add (i * 12)).block, (ad.add (i * 12)).off + 2, none⟩ = some (.int .i64 (zax l i).f2) ∧ W.cell? ⟨(ad.add (i * 12)).block, (ad.add (i * 12)).off + 3, none⟩ = some (.int .i64 (zax l i).f3) ∧ W.cell? ⟨(ad.add (i * 12)).block, (ad.add (i * 12)).off + 4, none⟩ = some (.string (zax l i).f4) ∧ W.cell? ⟨(ad.add (i * 12)).block, (ad.add (i * 12)).off + 5, none⟩ = some (.string (zax l i).f5) ∧ W.cell? ⟨(ad.add (i * 12)).block, (ad.add (i * 12)).off + 6, none⟩ = some (.int .i64 (zax l i).f6) ∧ W.cell? ⟨(ad.add (i * 12)).block, (ad.add (i * 12)).off + 7, none⟩ = some (.bool (zax l i).f7) ∧ W.cell? ⟨(ad.add (i * 12)).block, (ad.add (i * 12)).off + 8, none⟩ = some (.int .i64 (zax l i).f8) ∧ W.cell? ⟨(ad.add (i * 12)).block, (ad.add (i * 12)).off + 9, none⟩ = some (.int .i64 (zax l i).f9) ∧ W.cell? ⟨(ad.add (i * 12)).block, (ad.add (i * 12)).off + 10, none⟩ = some (.slice X (zax l i).f10.length y) ∧ W.cell? ⟨(ad.add (i * 12)).block, (ad.add (i * 12)).off + 11, none⟩ = some (.int .i64 (zax l i).f11) ∧ (zax l i).f10.length ≤ y ∧ Kd.C (Kd.int .u8) w X (zax l i).f10.length (zax l i).f10 := by
 obtain ⟨ad, X, y, ee, h0, h1, h2, h3, h4, h5, h6, h7, h8, h9, h10, h11, hy, hC⟩ := at_T38 h (i : Int) (by omega) (by omega)
 rw [Int.toNat_natCast] at h0 h1 h2 h3 h4 h5 h6 h7 h8 h9 h10 h11
 have up : ∀ {a : Addr} {v : Value}, w.cell? a = some v → W.cell? a = some v := fun h => (hb.cell (World.block_lt_of_cell? _ _ h)).trans h
 exact ⟨ad, X, y, ee, up h0, up h1, up h2, up h3, up h4, up h5, up h6, up h7, up h8, up h9, up h10, up h11, hy, hC⟩
theorem t_numW (a : Int) (w : World) : Calls Try.prog 10 #[.int .i64 a] w fun e w' => e = .returned (.int .i64 a) ∧ w = w' := by
 go_enter Try.func10, Try.ntmps10
 go_wp2
 go_ret
 exact ⟨rfl, rfl⟩
set_option maxHeartbeats 8000000 in
set_option maxRecDepth 100000 in
theorem gangwaylaw13_TreeWhole.walk (k : Nat) (A0 : Option Addr) (c0 : Nat) (l0 : List S45) (A1 : Option Addr) (c1 : Nat) (l1 : List S38) (w : World) (hr0 : Kd.C k45 w A0 l0.length l0) (hc0 : l0.length ≤ c0) (hr1 : Kd.C k38 w A1 l1.length l1) (hc1 : l1.length ≤ c1)
  (hv m : Bool) (hH : zaX.f k l0 l1 = some hv) (hM : hv = false → zau.f k l0 = some m) (hT : hv = false → m = true → za4.f k = some true ∧ zbj.f k l0 = some l0 ∧ MayP l0) :
  Calls Try.prog 7 #[.agg #[.slice A0 l0.length c0, .slice A1 l1.length c1]] w fun e w' => e = .returned (.bool true) ∧ Below w.heap.size w w' := by
 have HR0 := zaa.mk hr0
 have HC0 := zaa.mk hc0
 have HR1 := zaa.mk hr1
 have HC1 := zaa.mk hc1
 have HH := zaa.mk hH
 have HM := zaa.mk hM
 have HT := zaa.mk hT
 have hut := Try.underlying24
 have hus := Try.underlying27
 have hun := Try.underlying45
 have HB := zaa.mk (zac (Below.refl w.heap.size w) (.cells #[.slice A0 l0.length c0, .slice A1 l1.length c1] 27))
 have HBS := zaa.mk (zbC w (.cells #[.slice A0 l0.length c0, .slice A1 l1.length c1] 27))
 clear hr0 hc0 hr1 hc1 hH hM hT
 cases hv with
 | true =>
  clear HT HM
  go_enter Try.func7, Try.ntmps7
  go_wp2_with (first | (go_at_call 8; refine (zaX.calls k _ c0 l0 A1 c1 l1 _ _ (Kd.C_below HR0.out HB.out) HC0.out (Kd.C_below HR1.out HB.out) HC1.out HH.out).mono ?_; rintro e w1 ⟨rfl, hb⟩; have HBn := zaa.mk (zai HB.out hb); have HSn := zaa.mk (zaq HBS.out hb); clear HB HBS hb; have HB := HBn; have HBS := HSn; clear HBn HSn; obtain ⟨hs0, hs1⟩ := zbu HBS.out))
  go_ret
  exact ⟨rfl, HB.out⟩
 | false =>
  have HMY := zaa.mk (HM.out rfl)
  clear HM
  cases m with
  | false =>
   clear HT
   go_enter Try.func7, Try.ntmps7
   go_wp2_with (first | (go_at_call 8; refine (zaX.calls k _ c0 l0 A1 c1 l1 _ _ (Kd.C_below HR0.out HB.out) HC0.out (Kd.C_below HR1.out HB.out) HC1.out HH.out).mono ?_; rintro e w1 ⟨rfl, hb⟩; have HBn := zaa.mk (zai HB.out hb); have HSn := zaa.mk (zaq HBS.out hb); clear HB HBS hb; have HB := HBn; have HBS := HSn; clear HBn HSn; obtain ⟨hs0, hs1⟩ := zbu HBS.out) | (go_at_call 12; refine (zau.calls k _ c0 l0 _ _ (Kd.C_below HR0.out HB.out) HC0.out HMY.out).mono ?_; rintro e w1 ⟨rfl, hb⟩; have HBn := zaa.mk (zai HB.out hb); have HSn := zaa.mk (zaq HBS.out hb); clear HB HBS hb; have HB := HBn; have HBS := HSn; clear HBn HSn))
   go_ret
   exact ⟨rfl, HB.out⟩
  | true =>
   obtain ⟨hwk, hcp, hmp⟩ := HT.out rfl rfl
   have HWK := zaa.mk hwk
   have HCP := zaa.mk hcp
   have HMP0 := zaa.mk hmp
   have HNUM : zaa (∀ x, zbi.f x = some x) := ⟨fun _ => rfl⟩
   clear HT hwk hcp hmp
   go_enter Try.func7, Try.ntmps7
   go_wp2_with (first | (go_at_call 8; refine (zaX.calls k _ c0 l0 A1 c1 l1 _ _ (Kd.C_below HR0.out HB.out) HC0.out (Kd.C_below HR1.out HB.out) HC1.out HH.out).mono ?_; rintro e w1 ⟨rfl, hb⟩; have HBn := zaa.mk (zai HB.out hb); have HSn := zaa.mk (zaq HBS.out hb); clear HB HBS hb; have HB := HBn; have HBS := HSn; clear HBn HSn; obtain ⟨hs0, hs1⟩ := zbu HBS.out) | (go_at_call 12; refine (zau.calls k _ c0 l0 _ _ (Kd.C_below HR0.out HB.out) HC0.out HMY.out).mono ?_; rintro e w1 ⟨rfl, hb⟩; have HBn := zaa.mk (zai HB.out hb); have HSn := zaa.mk (zaq HBS.out hb); clear HB HBS hb; clear hs0 hs1; have HB := HBn; have HBS := HSn; clear HBn HSn; obtain ⟨hs0, hs1⟩ := zbu HBS.out))
   refine (zbj.calls k A0 c0 l0 l0 _ (Kd.C_below HR0.out HB.out) HC0.out HCP.out).mono ?_
   rintro e' w3 ⟨v3, rfl, hS, hb⟩
   obtain ⟨At, ct, rfl⟩ := Kd.zbc hS
   have HT := zaa.mk (Kd.za8 hS HB.out.size)
   replace HB := zaa.mk (zai HB.out hb)
   have HS := zaa.mk (zaq HBS.out hb)
   clear hS hb HBS HCP hs0 hs1
   obtain ⟨hs0, hs1⟩ := zbu HS.out
   go_upto_region 4 with fail
   have HU := zaa.mk (zbC w3 (.cells #[.slice At l0.length ct] 24))
   have hg3 : w.heap.size < w3.heap.size := zaV HS.out
   obtain ⟨g3, hgg⟩ : ∃ g3, g3 = w3.heap.size := ⟨_, rfl⟩
   have HGG := zaa.mk hgg
   replace HS := zaa.mk (zaj HS.out (.cells #[.slice At l0.length ct] 24))
   replace HT := zaa.mk (Kd.zbm HT.out (zac (Below.refl _ _) (.cells #[.slice At l0.length ct] 24)))
   replace HB := zaa.mk (zac HB.out (.cells #[.slice At l0.length ct] 24))
   rw [← hgg] at HU hg3 ⊢
   clear hs0 hs1 hgg
   go_wp2_with fail
   go_loopg [4] 14 (fun gk v4 w' => ∃ (n : Nat) (t : List S45) (At : Option Addr) (ct : Nat), n ≤ l1.length ∧ n ≤ 14 ∧ gk = 14 - n ∧ v4 = .int .i64 n ∧ zaa (MayP t) ∧ zaa (w'.heap[w.heap.size]? = some (.cells #[.slice A0 l0.length c0, .slice A1 l1.length c1] 27 (0, 0))) ∧ zaa (w'.heap[g3]? = some (.cells #[.slice At t.length ct] 24 (0, 0))) ∧ zaa (Kd.S k45 45 w' w.heap.size (fun _ => True) (.slice At t.length ct) t) ∧ zaa (Below w.heap.size w w'))
   case atStart => exact ⟨0, l0, At, ct, Nat.zero_le _, Nat.zero_le _, rfl, rfl, HMP0, HS, HU, HT, HB⟩
   case round =>
    clear HS HU HT HB HMP0
    obtain ⟨n, t, At, ct, hn, hn14, hgk, rfl, HMP, HS, HU, HT, HB⟩ := hrel
    obtain ⟨hs0, hs1⟩ := zbu HS.out
    have hqu := one_cell HU.out
    have hqf := zaf HU.out 0
    have hmax := HR1.out.2.1
    by_cases hlt : n < l1.length
    ·by_cases h6 : n < 14
     ·have h7 := h6
      obtain ⟨aa, X, y, rfl, hx0, hx1, hx2, hx3, hx4, hx5, hx6, hx7, hx8, hx9, hx10, hx11, hy, hC⟩ := act_cellsW HR1.out HB.out n hlt
      have HXC := zaa.mk hC
      have HXY := zaa.mk hy
      clear hC hy
      go_upto_region 8 with (fail)
      have HA := zaa.mk (zbC wr (.cells #[.int .i64 (zax l1 n).f0, .int .i64 (zax l1 n).f1, .int .i64 (zax l1 n).f2, .int .i64 (zax l1 n).f3, .string (zax l1 n).f4, .string (zax l1 n).f5, .int .i64 (zax l1 n).f6, .bool (zax l1 n).f7, .int .i64 (zax l1 n).f8, .int .i64 (zax l1 n).f9, .slice X (zax l1 n).f10.length y, .int .i64 (zax l1 n).f11] 38))
      clear hs0 hs1 hqu hqf
      replace HS := zaa.mk (zaj HS.out (.cells #[.int .i64 (zax l1 n).f0, .int .i64 (zax l1 n).f1, .int .i64 (zax l1 n).f2, .int .i64 (zax l1 n).f3, .string (zax l1 n).f4, .string (zax l1 n).f5, .int .i64 (zax l1 n).f6, .bool (zax l1 n).f7, .int .i64 (zax l1 n).f8, .int .i64 (zax l1 n).f9, .slice X (zax l1 n).f10.length y, .int .i64 (zax l1 n).f11] 38))
      replace HU := zaa.mk (zaj HU.out (.cells #[.int .i64 (zax l1 n).f0, .int .i64 (zax l1 n).f1, .int .i64 (zax l1 n).f2, .int .i64 (zax l1 n).f3, .string (zax l1 n).f4, .string (zax l1 n).f5, .int .i64 (zax l1 n).f6, .bool (zax l1 n).f7, .int .i64 (zax l1 n).f8, .int .i64 (zax l1 n).f9, .slice X (zax l1 n).f10.length y, .int .i64 (zax l1 n).f11] 38))
      replace HT := zaa.mk (Kd.zbm HT.out (zac (Below.refl _ _) (.cells #[.int .i64 (zax l1 n).f0, .int .i64 (zax l1 n).f1, .int .i64 (zax l1 n).f2, .int .i64 (zax l1 n).f3, .string (zax l1 n).f4, .string (zax l1 n).f5, .int .i64 (zax l1 n).f6, .bool (zax l1 n).f7, .int .i64 (zax l1 n).f8, .int .i64 (zax l1 n).f9, .slice X (zax l1 n).f10.length y, .int .i64 (zax l1 n).f11] 38)))
      replace HB := zaa.mk (zac HB.out (.cells #[.int .i64 (zax l1 n).f0, .int .i64 (zax l1 n).f1, .int .i64 (zax l1 n).f2, .int .i64 (zax l1 n).f3, .string (zax l1 n).f4, .string (zax l1 n).f5, .int .i64 (zax l1 n).f6, .bool (zax l1 n).f7, .int .i64 (zax l1 n).f8, .int .i64 (zax l1 n).f9, .slice X (zax l1 n).f10.length y, .int .i64 (zax l1 n).f11] 38))
      clear hx0 hx1 hx2 hx3 hx4 hx5 hx6 hx7 hx8 hx9 hx10 hx11
      obtain ⟨g6, hg6⟩ : ∃ g6, g6 = wr.heap.size + 1 := ⟨_, rfl⟩
      have HG6 := zaa.mk hg6
      clear hg6
      go_upto_region 9 with (fail)
      have HV := zaa.mk (zbC (wr.alloc (.cells #[.int .i64 (zax l1 n).f0, .int .i64 (zax l1 n).f1, .int .i64 (zax l1 n).f2, .int .i64 (zax l1 n).f3, .string (zax l1 n).f4, .string (zax l1 n).f5, .int .i64 (zax l1 n).f6, .bool (zax l1 n).f7, .int .i64 (zax l1 n).f8, .int .i64 (zax l1 n).f9, .slice X (zax l1 n).f10.length y, .int .i64 (zax l1 n).f11] 38)) (.cells #[.slice none 0 0] 24))
      have hg36 : g3 < g6 := by have := zaV HU.out; rw [World.size_alloc] at this; rw [HG6.out]; omega
      have hgw6 : w.heap.size < g6 := by have := zaV HS.out; rw [World.size_alloc] at this; rw [HG6.out]; omega
      rw [World.size_alloc, ← HG6.out] at HV
      rw [← HG6.out]
      replace HS := zaa.mk (zaj HS.out (.cells #[.slice none 0 0] 24))
      replace HU := zaa.mk (zaj HU.out (.cells #[.slice none 0 0] 24))
      replace HT := zaa.mk (Kd.zbm HT.out (zac (Below.refl _ _) (.cells #[.slice none 0 0] 24)))
      replace HB := zaa.mk (zac HB.out (.cells #[.slice none 0 0] 24))
      replace HA := zaa.mk (zaj HA.out (.cells #[.slice none 0 0] 24))
      obtain ⟨hs0, hs1⟩ := zbu HS.out
      have hqu := one_cell HU.out
      have hqf := zaf HU.out 0
      have ht0 := (zah HA.out 0).trans rfl
      have ht1 := (zah HA.out 1).trans rfl
      have ht2 := (zah HA.out 2).trans rfl
      have ht3 := (zah HA.out 3).trans rfl
      have ht4 := (zah HA.out 4).trans rfl
      have ht5 := (zah HA.out 5).trans rfl
      have ht6 := (zah HA.out 6).trans rfl
      have ht7 := (zah HA.out 7).trans rfl
      have ht8 := (zah HA.out 8).trans rfl
      have ht9 := (zah HA.out 9).trans rfl
      have ht10 := (zah HA.out 10).trans rfl
      have ht11 := (zah HA.out 11).trans rfl
      have hqv := one_cell HV.out
      have hqw := zaf HV.out 0
      obtain ⟨d, hwd, hd0, hd7⟩ := within7 (zax l1 n).f0
      have HWI := zaa.mk hwd
      clear hwd
      go_wp2_with (first | (go_at_call 10; refine (t_numW _ _).mono ?_; rintro e w' ⟨rfl, rfl⟩))
      refine (zbX.calls _ _ _ _ HWI.out).mono ?_
      rintro e' w5 ⟨rfl, nd5, hw5⟩
      have hb : Below ((wr.alloc (.cells #[.int .i64 (zax l1 n).f0, .int .i64 (zax l1 n).f1, .int .i64 (zax l1 n).f2, .int .i64 (zax l1 n).f3, .string (zax l1 n).f4, .string (zax l1 n).f5, .int .i64 (zax l1 n).f6, .bool (zax l1 n).f7, .int .i64 (zax l1 n).f8, .int .i64 (zax l1 n).f9, .slice X (zax l1 n).f10.length y, .int .i64 (zax l1 n).f11] 38)).alloc (.cells #[.slice none 0 0] 24)).heap.size ((wr.alloc (.cells #[.int .i64 (zax l1 n).f0, .int .i64 (zax l1 n).f1, .int .i64 (zax l1 n).f2, .int .i64 (zax l1 n).f3, .string (zax l1 n).f4, .string (zax l1 n).f5, .int .i64 (zax l1 n).f6, .bool (zax l1 n).f7, .int .i64 (zax l1 n).f8, .int .i64 (zax l1 n).f9, .slice X (zax l1 n).f10.length y, .int .i64 (zax l1 n).f11] 38)).alloc (.cells #[.slice none 0 0] 24)) w5 := hw5 ▸ zab (Below.refl _ _) nd5
      clear hw5
      clear hs0 hs1 hqu hqf ht0 ht1 ht2 ht3 ht4 ht5 ht6 ht7 ht8 ht9 ht10 ht11 hqv hqw
      replace HS := zaa.mk (zaq (by repeat (first | exact HS.out | apply zak | apply zaj | apply zam)) hb)
      replace HU := zaa.mk (zaq (by repeat (first | exact HU.out | apply zak | apply zaj | apply zam)) hb)
      replace HT := zaa.mk (Kd.zbm HT.out hb)
      replace HB := zaa.mk (zai (by repeat (first | exact HB.out | apply zac | apply zab | apply zad | apply zaH)) hb)
      replace HA := zaa.mk (zaq (by repeat (first | exact HA.out | apply zak | apply zaj | apply zam)) hb)
      replace HV := zaa.mk (zaq (by repeat (first | exact HV.out | apply zak | apply zaj | apply zam)) hb)
      clear hb
      obtain ⟨hs0, hs1⟩ := zbu HS.out
      have hqu := one_cell HU.out
      have hqf := zaf HU.out 0
      have ht0 := (zah HA.out 0).trans rfl
      have ht1 := (zah HA.out 1).trans rfl
      have ht2 := (zah HA.out 2).trans rfl
      have ht3 := (zah HA.out 3).trans rfl
      have ht4 := (zah HA.out 4).trans rfl
      have ht5 := (zah HA.out 5).trans rfl
      have ht6 := (zah HA.out 6).trans rfl
      have ht7 := (zah HA.out 7).trans rfl
      have ht8 := (zah HA.out 8).trans rfl
      have ht9 := (zah HA.out 9).trans rfl
      have ht10 := (zah HA.out 10).trans rfl
      have ht11 := (zah HA.out 11).trans rfl
      have hqv := one_cell HV.out
      have hqw := zaf HV.out 0
      go_upto_block 2 with (fail)
      go_cut [7] (fun v7 wc => ∃ (u : List S45) (e : Int) (Au : Option Addr) (cu : Nat), v7 = .int .i64 e ∧ zaa (MayP u) ∧ zaa (e ≠ 0 → u = t) ∧ zaa (wc.heap[w.heap.size]? = some (.cells #[.slice A0 l0.length c0, .slice (some aa) l1.length c1] 27 (0, 0))) ∧ zaa (wc.heap[g3]? = some (.cells #[.slice At t.length ct] 24 (0, 0))) ∧ zaa (Kd.S k45 45 wc w.heap.size (fun _ => True) (.slice At t.length ct) t) ∧ zaa (Below w.heap.size w wc) ∧ zaa (wc.heap[g6]? = some (.cells #[.slice Au u.length cu] 24 (0, 0))) ∧ zaa (Kd.S k45 45 wc w.heap.size (fun _ => True) (.slice Au u.length cu) u))
      case first =>
       rcases (show d = 0 ∨ d = 1 ∨ d = 2 ∨ d = 3 ∨ d = 4 ∨ d = 5 ∨ d = 6 by omega) with rfl | rfl | rfl | rfl | rfl | rfl | rfl
       ·as_aux_lemma =>
         obtain ⟨⟨u, m, e⟩, ⟨K, hK⟩, hbad, hok⟩ := MakeW_ev HMP.out (zax l1 n).f2 (zax l1 n).f4 (zax l1 n).f6 (zax l1 n).f5 (zax l1 n).f11
         have HK := zaa.mk (hK K (Nat.le_refl _))
         clear hK
         have HE : zaa (e ≠ 0 → u = t) := ⟨hbad⟩
         have HMU : zaa (MayP u) := ⟨by
          by_cases q : e = 0
          ·exact hok q
          ·have q2 : u = t := hbad q
           rw [q2]; exact HMP.out⟩
         clear hbad hok
         go_wp2_with (first | (go_at_call 10; refine (t_numW _ _).mono ?_; rintro e w' ⟨rfl, rfl⟩))
         refine (zbD.calls K At ct t (zax l1 n).f2 (zax l1 n).f4 (zax l1 n).f6 (zax l1 n).f5 (zax l1 n).f11 u m e _ (Kd.za5 HT.out).2.2 (Kd.za5 HT.out).2.1 HK.out).mono ?_
         rintro e' w6 ⟨v6, rfl, hS, hb⟩
         obtain ⟨Au, cu, rfl⟩ := Kd.zbc hS
         have HTU := zaa.mk (Kd.za8 hS HB.out.size)
         clear hS
         clear hs0 hs1 hqu hqf ht0 ht1 ht2 ht3 ht4 ht5 ht6 ht7 ht8 ht9 ht10 ht11 hqv hqw
         replace HS := zaa.mk (zaq (by repeat (first | exact HS.out | apply zak | apply zaj | apply zam)) hb)
         replace HU := zaa.mk (zaq (by repeat (first | exact HU.out | apply zak | apply zaj | apply zam)) hb)
         replace HT := zaa.mk (Kd.zbm HT.out hb)
         replace HB := zaa.mk (zai (by repeat (first | exact HB.out | apply zac | apply zab | apply zad | apply zaH)) hb)
         replace HA := zaa.mk (zaq (by repeat (first | exact HA.out | apply zak | apply zaj | apply zam)) hb)
         replace HV := zaa.mk (zaq (by repeat (first | exact HV.out | apply zak | apply zaj | apply zam)) hb)
         clear hb
         obtain ⟨hs0, hs1⟩ := zbu HS.out
         have hqu := one_cell HU.out
         have hqf := zaf HU.out 0
         have ht0 := (zah HA.out 0).trans rfl
         have ht1 := (zah HA.out 1).trans rfl
         have ht2 := (zah HA.out 2).trans rfl
         have ht3 := (zah HA.out 3).trans rfl
         have ht4 := (zah HA.out 4).trans rfl
         have ht5 := (zah HA.out 5).trans rfl
         have ht6 := (zah HA.out 6).trans rfl
         have ht7 := (zah HA.out 7).trans rfl
         have ht8 := (zah HA.out 8).trans rfl
         have ht9 := (zah HA.out 9).trans rfl
         have ht10 := (zah HA.out 10).trans rfl
         have ht11 := (zah HA.out 11).trans rfl
         have hqv := one_cell HV.out
         have hqw := zaf HV.out 0
         go_wp2
         go_meet
         clear hs0 hs1 hqu hqf ht0 ht1 ht2 ht3 ht4 ht5 ht6 ht7 ht8 ht9 ht10 ht11 hqv hqw
         have hput := zaF HV.out 0 (.slice Au u.length cu) rfl
         have HS' := zaa.mk (zaC HS.out (p := ⟨g6, 0, none⟩) (by show _ ≠ g6; omega) (.slice Au u.length cu))
         have HU' := zaa.mk (zaC HU.out (p := ⟨g6, 0, none⟩) (by show _ ≠ g6; omega) (.slice Au u.length cu))
         have HT' := zaa.mk (Kd.zbK HT.out HV.out (by decide) 0 (.slice Au u.length cu))
         have HB' := zaa.mk (HB.out.setCell (p := ⟨g6, 0, none⟩) (by show _ ≤ g6; omega) (.slice Au u.length cu))
         have HNA : zaa (wr.heap.size ≠ g6) := ⟨by rw [HG6.out]; omega⟩
         have HA' := zaa.mk (zaC HA.out (p := ⟨g6, 0, none⟩) (by exact HNA.out) (.slice Au u.length cu))
         have HTU' := zaa.mk (Kd.zbK HTU.out HV.out (by decide) 0 (.slice Au u.length cu))
         replace HS := HS'
         clear HS'
         replace HU := HU'
         clear HU'
         replace HT := HT'
         clear HT'
         replace HB := HB'
         clear HB'
         replace HA := HA'
         clear HA'
         replace HTU := HTU'
         clear HTU'
         replace HV := zaa.mk hput
         clear hput
         case rel => exact ⟨u, e, Au, cu, rfl, HMU, HE, HS, HU, HT, HB, HV, HTU⟩
       ·as_aux_lemma =>
         obtain ⟨⟨u, e⟩, ⟨K, hK⟩, hbad, hok⟩ := LinkW_ev HMP.out (zax l1 n).f1 (zax l1 n).f2 (zax l1 n).f4 (zax l1 n).f11
         have HK := zaa.mk (hK K (Nat.le_refl _))
         clear hK
         have HE : zaa (e ≠ 0 → u = t) := ⟨hbad⟩
         have HMU : zaa (MayP u) := ⟨by
          by_cases q : e = 0
          ·exact hok q
          ·have q2 : u = t := hbad q
           rw [q2]; exact HMP.out⟩
         clear hbad hok
         go_wp2_with (first | (go_at_call 10; refine (t_numW _ _).mono ?_; rintro e w' ⟨rfl, rfl⟩))
         refine (tree_Link.calls K At ct t (zax l1 n).f1 (zax l1 n).f2 (zax l1 n).f4 (zax l1 n).f11 u e _ (Kd.za5 HT.out).2.2 (Kd.za5 HT.out).2.1 HK.out).mono ?_
         rintro e' w6 ⟨v6, rfl, hS, hb⟩
         obtain ⟨Au, cu, rfl⟩ := Kd.zbc hS
         have HTU := zaa.mk (Kd.za8 hS HB.out.size)
         clear hS
         clear hs0 hs1 hqu hqf ht0 ht1 ht2 ht3 ht4 ht5 ht6 ht7 ht8 ht9 ht10 ht11 hqv hqw
         replace HS := zaa.mk (zaq (by repeat (first | exact HS.out | apply zak | apply zaj | apply zam)) hb)
         replace HU := zaa.mk (zaq (by repeat (first | exact HU.out | apply zak | apply zaj | apply zam)) hb)
         replace HT := zaa.mk (Kd.zbm HT.out hb)
         replace HB := zaa.mk (zai (by repeat (first | exact HB.out | apply zac | apply zab | apply zad | apply zaH)) hb)
         replace HA := zaa.mk (zaq (by repeat (first | exact HA.out | apply zak | apply zaj | apply zam)) hb)
         replace HV := zaa.mk (zaq (by repeat (first | exact HV.out | apply zak | apply zaj | apply zam)) hb)
         clear hb
         obtain ⟨hs0, hs1⟩ := zbu HS.out
         have hqu := one_cell HU.out
         have hqf := zaf HU.out 0
         have ht0 := (zah HA.out 0).trans rfl
         have ht1 := (zah HA.out 1).trans rfl
         have ht2 := (zah HA.out 2).trans rfl
         have ht3 := (zah HA.out 3).trans rfl
         have ht4 := (zah HA.out 4).trans rfl
         have ht5 := (zah HA.out 5).trans rfl
         have ht6 := (zah HA.out 6).trans rfl
         have ht7 := (zah HA.out 7).trans rfl
         have ht8 := (zah HA.out 8).trans rfl
         have ht9 := (zah HA.out 9).trans rfl
         have ht10 := (zah HA.out 10).trans rfl
         have ht11 := (zah HA.out 11).trans rfl
         have hqv := one_cell HV.out
         have hqw := zaf HV.out 0
         go_wp2
         go_meet
         clear hs0 hs1 hqu hqf ht0 ht1 ht2 ht3 ht4 ht5 ht6 ht7 ht8 ht9 ht10 ht11 hqv hqw
         have hput := zaF HV.out 0 (.slice Au u.length cu) rfl
         have HS' := zaa.mk (zaC HS.out (p := ⟨g6, 0, none⟩) (by show _ ≠ g6; omega) (.slice Au u.length cu))
         have HU' := zaa.mk (zaC HU.out (p := ⟨g6, 0, none⟩) (by show _ ≠ g6; omega) (.slice Au u.length cu))
         have HT' := zaa.mk (Kd.zbK HT.out HV.out (by decide) 0 (.slice Au u.length cu))
         have HB' := zaa.mk (HB.out.setCell (p := ⟨g6, 0, none⟩) (by show _ ≤ g6; omega) (.slice Au u.length cu))
         have HNA : zaa (wr.heap.size ≠ g6) := ⟨by rw [HG6.out]; omega⟩
         have HA' := zaa.mk (zaC HA.out (p := ⟨g6, 0, none⟩) (by exact HNA.out) (.slice Au u.length cu))
         have HTU' := zaa.mk (Kd.zbK HTU.out HV.out (by decide) 0 (.slice Au u.length cu))
         replace HS := HS'
         clear HS'
         replace HU := HU'
         clear HU'
         replace HT := HT'
         clear HT'
         replace HB := HB'
         clear HB'
         replace HA := HA'
         clear HA'
         replace HTU := HTU'
         clear HTU'
         replace HV := zaa.mk hput
         clear hput
         case rel => exact ⟨u, e, Au, cu, rfl, HMU, HE, HS, HU, HT, HB, HV, HTU⟩
       ·as_aux_lemma =>
         obtain ⟨⟨u, e⟩, ⟨K, hK⟩, hbad, hok⟩ := UnlinkW_ev HMP.out (zax l1 n).f2 (zax l1 n).f4 (zax l1 n).f7 (zax l1 n).f11
         have HK := zaa.mk (hK K (Nat.le_refl _))
         clear hK
         have HE : zaa (e ≠ 0 → u = t) := ⟨hbad⟩
         have HMU : zaa (MayP u) := ⟨by
          by_cases q : e = 0
          ·exact hok q
          ·have q2 : u = t := hbad q
           rw [q2]; exact HMP.out⟩
         clear hbad hok
         go_wp2_with (first | (go_at_call 10; refine (t_numW _ _).mono ?_; rintro e w' ⟨rfl, rfl⟩))
         refine (tree_Unlink.calls K At ct t (zax l1 n).f2 (zax l1 n).f4 (zax l1 n).f7 (zax l1 n).f11 u e _ (Kd.za5 HT.out).2.2 (Kd.za5 HT.out).2.1 HK.out).mono ?_
         rintro e' w6 ⟨v6, rfl, hS, hb⟩
         obtain ⟨Au, cu, rfl⟩ := Kd.zbc hS
         have HTU := zaa.mk (Kd.za8 hS HB.out.size)
         clear hS
         clear hs0 hs1 hqu hqf ht0 ht1 ht2 ht3 ht4 ht5 ht6 ht7 ht8 ht9 ht10 ht11 hqv hqw
         replace HS := zaa.mk (zaq (by repeat (first | exact HS.out | apply zak | apply zaj | apply zam)) hb)
         replace HU := zaa.mk (zaq (by repeat (first | exact HU.out | apply zak | apply zaj | apply zam)) hb)
         replace HT := zaa.mk (Kd.zbm HT.out hb)
         replace HB := zaa.mk (zai (by repeat (first | exact HB.out | apply zac | apply zab | apply zad | apply zaH)) hb)
         replace HA := zaa.mk (zaq (by repeat (first | exact HA.out | apply zak | apply zaj | apply zam)) hb)
         replace HV := zaa.mk (zaq (by repeat (first | exact HV.out | apply zak | apply zaj | apply zam)) hb)
         clear hb
         obtain ⟨hs0, hs1⟩ := zbu HS.out
         have hqu := one_cell HU.out
         have hqf := zaf HU.out 0
         have ht0 := (zah HA.out 0).trans rfl
         have ht1 := (zah HA.out 1).trans rfl
         have ht2 := (zah HA.out 2).trans rfl
         have ht3 := (zah HA.out 3).trans rfl
         have ht4 := (zah HA.out 4).trans rfl
         have ht5 := (zah HA.out 5).trans rfl
         have ht6 := (zah HA.out 6).trans rfl
         have ht7 := (zah HA.out 7).trans rfl
         have ht8 := (zah HA.out 8).trans rfl
         have ht9 := (zah HA.out 9).trans rfl
         have ht10 := (zah HA.out 10).trans rfl
         have ht11 := (zah HA.out 11).trans rfl
         have hqv := one_cell HV.out
         have hqw := zaf HV.out 0
         go_wp2
         go_meet
         clear hs0 hs1 hqu hqf ht0 ht1 ht2 ht3 ht4 ht5 ht6 ht7 ht8 ht9 ht10 ht11 hqv hqw
         have hput := zaF HV.out 0 (.slice Au u.length cu) rfl
         have HS' := zaa.mk (zaC HS.out (p := ⟨g6, 0, none⟩) (by show _ ≠ g6; omega) (.slice Au u.length cu))
         have HU' := zaa.mk (zaC HU.out (p := ⟨g6, 0, none⟩) (by show _ ≠ g6; omega) (.slice Au u.length cu))
         have HT' := zaa.mk (Kd.zbK HT.out HV.out (by decide) 0 (.slice Au u.length cu))
         have HB' := zaa.mk (HB.out.setCell (p := ⟨g6, 0, none⟩) (by show _ ≤ g6; omega) (.slice Au u.length cu))
         have HNA : zaa (wr.heap.size ≠ g6) := ⟨by rw [HG6.out]; omega⟩
         have HA' := zaa.mk (zaC HA.out (p := ⟨g6, 0, none⟩) (by exact HNA.out) (.slice Au u.length cu))
         have HTU' := zaa.mk (Kd.zbK HTU.out HV.out (by decide) 0 (.slice Au u.length cu))
         replace HS := HS'
         clear HS'
         replace HU := HU'
         clear HU'
         replace HT := HT'
         clear HT'
         replace HB := HB'
         clear HB'
         replace HA := HA'
         clear HA'
         replace HTU := HTU'
         clear HTU'
         replace HV := zaa.mk hput
         clear hput
         case rel => exact ⟨u, e, Au, cu, rfl, HMU, HE, HS, HU, HT, HB, HV, HTU⟩
       ·as_aux_lemma =>
         obtain ⟨⟨u, e⟩, ⟨K, hK⟩, hbad, hok⟩ := Free_ev HMP.out (zax l1 n).f1
         have HK := zaa.mk (hK K (Nat.le_refl _))
         clear hK
         have HE : zaa (e ≠ 0 → u = t) := ⟨hbad⟩
         have HMU : zaa (MayP u) := ⟨by
          by_cases q : e = 0
          ·exact hok q
          ·have q2 : u = t := hbad q
           rw [q2]; exact HMP.out⟩
         clear hbad hok
         go_wp2_with (first | (go_at_call 10; refine (t_numW _ _).mono ?_; rintro e w' ⟨rfl, rfl⟩))
         refine (tree_Free.calls K At ct t (zax l1 n).f1 u e _ (Kd.za5 HT.out).2.2 (Kd.za5 HT.out).2.1 HK.out).mono ?_
         rintro e' w6 ⟨v6, rfl, hS, hb⟩
         obtain ⟨Au, cu, rfl⟩ := Kd.zbc hS
         have HTU := zaa.mk (Kd.za8 hS HB.out.size)
         clear hS
         clear hs0 hs1 hqu hqf ht0 ht1 ht2 ht3 ht4 ht5 ht6 ht7 ht8 ht9 ht10 ht11 hqv hqw
         replace HS := zaa.mk (zaq (by repeat (first | exact HS.out | apply zak | apply zaj | apply zam)) hb)
         replace HU := zaa.mk (zaq (by repeat (first | exact HU.out | apply zak | apply zaj | apply zam)) hb)
         replace HT := zaa.mk (Kd.zbm HT.out hb)
         replace HB := zaa.mk (zai (by repeat (first | exact HB.out | apply zac | apply zab | apply zad | apply zaH)) hb)
         replace HA := zaa.mk (zaq (by repeat (first | exact HA.out | apply zak | apply zaj | apply zam)) hb)
         replace HV := zaa.mk (zaq (by repeat (first | exact HV.out | apply zak | apply zaj | apply zam)) hb)
         clear hb
         obtain ⟨hs0, hs1⟩ := zbu HS.out
         have hqu := one_cell HU.out
         have hqf := zaf HU.out 0
         have ht0 := (zah HA.out 0).trans rfl
         have ht1 := (zah HA.out 1).trans rfl
         have ht2 := (zah HA.out 2).trans rfl
         have ht3 := (zah HA.out 3).trans rfl
         have ht4 := (zah HA.out 4).trans rfl
         have ht5 := (zah HA.out 5).trans rfl
         have ht6 := (zah HA.out 6).trans rfl
         have ht7 := (zah HA.out 7).trans rfl
         have ht8 := (zah HA.out 8).trans rfl
         have ht9 := (zah HA.out 9).trans rfl
         have ht10 := (zah HA.out 10).trans rfl
         have ht11 := (zah HA.out 11).trans rfl
         have hqv := one_cell HV.out
         have hqw := zaf HV.out 0
         go_wp2
         go_meet
         clear hs0 hs1 hqu hqf ht0 ht1 ht2 ht3 ht4 ht5 ht6 ht7 ht8 ht9 ht10 ht11 hqv hqw
         have hput := zaF HV.out 0 (.slice Au u.length cu) rfl
         have HS' := zaa.mk (zaC HS.out (p := ⟨g6, 0, none⟩) (by show _ ≠ g6; omega) (.slice Au u.length cu))
         have HU' := zaa.mk (zaC HU.out (p := ⟨g6, 0, none⟩) (by show _ ≠ g6; omega) (.slice Au u.length cu))
         have HT' := zaa.mk (Kd.zbK HT.out HV.out (by decide) 0 (.slice Au u.length cu))
         have HB' := zaa.mk (HB.out.setCell (p := ⟨g6, 0, none⟩) (by show _ ≤ g6; omega) (.slice Au u.length cu))
         have HNA : zaa (wr.heap.size ≠ g6) := ⟨by rw [HG6.out]; omega⟩
         have HA' := zaa.mk (zaC HA.out (p := ⟨g6, 0, none⟩) (by exact HNA.out) (.slice Au u.length cu))
         have HTU' := zaa.mk (Kd.zbK HTU.out HV.out (by decide) 0 (.slice Au u.length cu))
         replace HS := HS'
         clear HS'
         replace HU := HU'
         clear HU'
         replace HT := HT'
         clear HT'
         replace HB := HB'
         clear HB'
         replace HA := HA'
         clear HA'
         replace HTU := HTU'
         clear HTU'
         replace HV := zaa.mk hput
         clear hput
         case rel => exact ⟨u, e, Au, cu, rfl, HMU, HE, HS, HU, HT, HB, HV, HTU⟩
       ·as_aux_lemma =>
         obtain ⟨⟨u, e⟩, ⟨K, hK⟩, hbad, hok⟩ := RenameW_ev HMP.out (zax l1 n).f2 (zax l1 n).f4 (zax l1 n).f3 (zax l1 n).f5 (zax l1 n).f11
         have HK := zaa.mk (hK K (Nat.le_refl _))
         clear hK
         have HE : zaa (e ≠ 0 → u = t) := ⟨hbad⟩
         have HMU : zaa (MayP u) := ⟨by
          by_cases q : e = 0
          ·exact hok q
          ·have q2 : u = t := hbad q
           rw [q2]; exact HMP.out⟩
         clear hbad hok
         go_wp2_with (first | (go_at_call 10; refine (t_numW _ _).mono ?_; rintro e w' ⟨rfl, rfl⟩))
         refine (tree_Rename.calls K At ct t (zax l1 n).f2 (zax l1 n).f4 (zax l1 n).f3 (zax l1 n).f5 (zax l1 n).f11 u e _ (Kd.za5 HT.out).2.2 (Kd.za5 HT.out).2.1 HK.out).mono ?_
         rintro e' w6 ⟨v6, rfl, hS, hb⟩
         obtain ⟨Au, cu, rfl⟩ := Kd.zbc hS
         have HTU := zaa.mk (Kd.za8 hS HB.out.size)
         clear hS
         clear hs0 hs1 hqu hqf ht0 ht1 ht2 ht3 ht4 ht5 ht6 ht7 ht8 ht9 ht10 ht11 hqv hqw
         replace HS := zaa.mk (zaq (by repeat (first | exact HS.out | apply zak | apply zaj | apply zam)) hb)
         replace HU := zaa.mk (zaq (by repeat (first | exact HU.out | apply zak | apply zaj | apply zam)) hb)
         replace HT := zaa.mk (Kd.zbm HT.out hb)
         replace HB := zaa.mk (zai (by repeat (first | exact HB.out | apply zac | apply zab | apply zad | apply zaH)) hb)
         replace HA := zaa.mk (zaq (by repeat (first | exact HA.out | apply zak | apply zaj | apply zam)) hb)
         replace HV := zaa.mk (zaq (by repeat (first | exact HV.out | apply zak | apply zaj | apply zam)) hb)
         clear hb
         obtain ⟨hs0, hs1⟩ := zbu HS.out
         have hqu := one_cell HU.out
         have hqf := zaf HU.out 0
         have ht0 := (zah HA.out 0).trans rfl
         have ht1 := (zah HA.out 1).trans rfl
         have ht2 := (zah HA.out 2).trans rfl
         have ht3 := (zah HA.out 3).trans rfl
         have ht4 := (zah HA.out 4).trans rfl
         have ht5 := (zah HA.out 5).trans rfl
         have ht6 := (zah HA.out 6).trans rfl
         have ht7 := (zah HA.out 7).trans rfl
         have ht8 := (zah HA.out 8).trans rfl
         have ht9 := (zah HA.out 9).trans rfl
         have ht10 := (zah HA.out 10).trans rfl
         have ht11 := (zah HA.out 11).trans rfl
         have hqv := one_cell HV.out
         have hqw := zaf HV.out 0
         go_wp2
         go_meet
         clear hs0 hs1 hqu hqf ht0 ht1 ht2 ht3 ht4 ht5 ht6 ht7 ht8 ht9 ht10 ht11 hqv hqw
         have hput := zaF HV.out 0 (.slice Au u.length cu) rfl
         have HS' := zaa.mk (zaC HS.out (p := ⟨g6, 0, none⟩) (by show _ ≠ g6; omega) (.slice Au u.length cu))
         have HU' := zaa.mk (zaC HU.out (p := ⟨g6, 0, none⟩) (by show _ ≠ g6; omega) (.slice Au u.length cu))
         have HT' := zaa.mk (Kd.zbK HT.out HV.out (by decide) 0 (.slice Au u.length cu))
         have HB' := zaa.mk (HB.out.setCell (p := ⟨g6, 0, none⟩) (by show _ ≤ g6; omega) (.slice Au u.length cu))
         have HNA : zaa (wr.heap.size ≠ g6) := ⟨by rw [HG6.out]; omega⟩
         have HA' := zaa.mk (zaC HA.out (p := ⟨g6, 0, none⟩) (by exact HNA.out) (.slice Au u.length cu))
         have HTU' := zaa.mk (Kd.zbK HTU.out HV.out (by decide) 0 (.slice Au u.length cu))
         replace HS := HS'
         clear HS'
         replace HU := HU'
         clear HU'
         replace HT := HT'
         clear HT'
         replace HB := HB'
         clear HB'
         replace HA := HA'
         clear HA'
         replace HTU := HTU'
         clear HTU'
         replace HV := zaa.mk hput
         clear hput
         case rel => exact ⟨u, e, Au, cu, rfl, HMU, HE, HS, HU, HT, HB, HV, HTU⟩
       ·as_aux_lemma =>
         obtain ⟨⟨u, e⟩, ⟨K, hK⟩, hbad, hok⟩ := Write_ev HMP.out (zax l1 n).f1 (zax l1 n).f8 (zax l1 n).f10 (zax l1 n).f11
         have HK := zaa.mk (hK K (Nat.le_refl _))
         clear hK
         have HE : zaa (e ≠ 0 → u = t) := ⟨hbad⟩
         have HMU : zaa (MayP u) := ⟨by
          by_cases q : e = 0
          ·exact hok q
          ·have q2 : u = t := hbad q
           rw [q2]; exact HMP.out⟩
         clear hbad hok
         go_wp2_with (first | (go_at_call 10; refine (t_numW _ _).mono ?_; rintro e w' ⟨rfl, rfl⟩))
         refine (tree_Write.calls K At ct t (zax l1 n).f1 (zax l1 n).f8 X y (zax l1 n).f10 (zax l1 n).f11 u e _ (Kd.za5 HT.out).2.2 (Kd.za5 HT.out).2.1 (Kd.C_below HXC.out HB.out) HXY.out HK.out).mono ?_
         rintro e' w6 ⟨v6, rfl, hS, hb⟩
         obtain ⟨Au, cu, rfl⟩ := Kd.zbc hS
         have HTU := zaa.mk (Kd.za8 hS HB.out.size)
         clear hS
         clear hs0 hs1 hqu hqf ht0 ht1 ht2 ht3 ht4 ht5 ht6 ht7 ht8 ht9 ht10 ht11 hqv hqw
         replace HS := zaa.mk (zaq (by repeat (first | exact HS.out | apply zak | apply zaj | apply zam)) hb)
         replace HU := zaa.mk (zaq (by repeat (first | exact HU.out | apply zak | apply zaj | apply zam)) hb)
         replace HT := zaa.mk (Kd.zbm HT.out hb)
         replace HB := zaa.mk (zai (by repeat (first | exact HB.out | apply zac | apply zab | apply zad | apply zaH)) hb)
         replace HA := zaa.mk (zaq (by repeat (first | exact HA.out | apply zak | apply zaj | apply zam)) hb)
         replace HV := zaa.mk (zaq (by repeat (first | exact HV.out | apply zak | apply zaj | apply zam)) hb)
         clear hb
         obtain ⟨hs0, hs1⟩ := zbu HS.out
         have hqu := one_cell HU.out
         have hqf := zaf HU.out 0
         have ht0 := (zah HA.out 0).trans rfl
         have ht1 := (zah HA.out 1).trans rfl
         have ht2 := (zah HA.out 2).trans rfl
         have ht3 := (zah HA.out 3).trans rfl
         have ht4 := (zah HA.out 4).trans rfl
         have ht5 := (zah HA.out 5).trans rfl
         have ht6 := (zah HA.out 6).trans rfl
         have ht7 := (zah HA.out 7).trans rfl
         have ht8 := (zah HA.out 8).trans rfl
         have ht9 := (zah HA.out 9).trans rfl
         have ht10 := (zah HA.out 10).trans rfl
         have ht11 := (zah HA.out 11).trans rfl
         have hqv := one_cell HV.out
         have hqw := zaf HV.out 0
         go_wp2
         go_meet
         clear hs0 hs1 hqu hqf ht0 ht1 ht2 ht3 ht4 ht5 ht6 ht7 ht8 ht9 ht10 ht11 hqv hqw
         have hput := zaF HV.out 0 (.slice Au u.length cu) rfl
         have HS' := zaa.mk (zaC HS.out (p := ⟨g6, 0, none⟩) (by show _ ≠ g6; omega) (.slice Au u.length cu))
         have HU' := zaa.mk (zaC HU.out (p := ⟨g6, 0, none⟩) (by show _ ≠ g6; omega) (.slice Au u.length cu))
         have HT' := zaa.mk (Kd.zbK HT.out HV.out (by decide) 0 (.slice Au u.length cu))
         have HB' := zaa.mk (HB.out.setCell (p := ⟨g6, 0, none⟩) (by show _ ≤ g6; omega) (.slice Au u.length cu))
         have HNA : zaa (wr.heap.size ≠ g6) := ⟨by rw [HG6.out]; omega⟩
         have HA' := zaa.mk (zaC HA.out (p := ⟨g6, 0, none⟩) (by exact HNA.out) (.slice Au u.length cu))
         have HTU' := zaa.mk (Kd.zbK HTU.out HV.out (by decide) 0 (.slice Au u.length cu))
         replace HS := HS'
         clear HS'
         replace HU := HU'
         clear HU'
         replace HT := HT'
         clear HT'
         replace HB := HB'
         clear HB'
         replace HA := HA'
         clear HA'
         replace HTU := HTU'
         clear HTU'
         replace HV := zaa.mk hput
         clear hput
         case rel => exact ⟨u, e, Au, cu, rfl, HMU, HE, HS, HU, HT, HB, HV, HTU⟩
       ·as_aux_lemma =>
         obtain ⟨⟨u, e⟩, ⟨K, hK⟩, hbad, hok⟩ := Cut_ev HMP.out (zax l1 n).f1 (zax l1 n).f9 (zax l1 n).f11
         have HK := zaa.mk (hK K (Nat.le_refl _))
         clear hK
         have HE : zaa (e ≠ 0 → u = t) := ⟨hbad⟩
         have HMU : zaa (MayP u) := ⟨by
          by_cases q : e = 0
          ·exact hok q
          ·have q2 : u = t := hbad q
           rw [q2]; exact HMP.out⟩
         clear hbad hok
         go_wp2_with (first | (go_at_call 10; refine (t_numW _ _).mono ?_; rintro e w' ⟨rfl, rfl⟩))
         refine (tree_Cut.calls K At ct t (zax l1 n).f1 (zax l1 n).f9 (zax l1 n).f11 u e _ (Kd.za5 HT.out).2.2 (Kd.za5 HT.out).2.1 HK.out).mono ?_
         rintro e' w6 ⟨v6, rfl, hS, hb⟩
         obtain ⟨Au, cu, rfl⟩ := Kd.zbc hS
         have HTU := zaa.mk (Kd.za8 hS HB.out.size)
         clear hS
         clear hs0 hs1 hqu hqf ht0 ht1 ht2 ht3 ht4 ht5 ht6 ht7 ht8 ht9 ht10 ht11 hqv hqw
         replace HS := zaa.mk (zaq (by repeat (first | exact HS.out | apply zak | apply zaj | apply zam)) hb)
         replace HU := zaa.mk (zaq (by repeat (first | exact HU.out | apply zak | apply zaj | apply zam)) hb)
         replace HT := zaa.mk (Kd.zbm HT.out hb)
         replace HB := zaa.mk (zai (by repeat (first | exact HB.out | apply zac | apply zab | apply zad | apply zaH)) hb)
         replace HA := zaa.mk (zaq (by repeat (first | exact HA.out | apply zak | apply zaj | apply zam)) hb)
         replace HV := zaa.mk (zaq (by repeat (first | exact HV.out | apply zak | apply zaj | apply zam)) hb)
         clear hb
         obtain ⟨hs0, hs1⟩ := zbu HS.out
         have hqu := one_cell HU.out
         have hqf := zaf HU.out 0
         have ht0 := (zah HA.out 0).trans rfl
         have ht1 := (zah HA.out 1).trans rfl
         have ht2 := (zah HA.out 2).trans rfl
         have ht3 := (zah HA.out 3).trans rfl
         have ht4 := (zah HA.out 4).trans rfl
         have ht5 := (zah HA.out 5).trans rfl
         have ht6 := (zah HA.out 6).trans rfl
         have ht7 := (zah HA.out 7).trans rfl
         have ht8 := (zah HA.out 8).trans rfl
         have ht9 := (zah HA.out 9).trans rfl
         have ht10 := (zah HA.out 10).trans rfl
         have ht11 := (zah HA.out 11).trans rfl
         have hqv := one_cell HV.out
         have hqw := zaf HV.out 0
         go_wp2
         go_meet
         clear hs0 hs1 hqu hqf ht0 ht1 ht2 ht3 ht4 ht5 ht6 ht7 ht8 ht9 ht10 ht11 hqv hqw
         have hput := zaF HV.out 0 (.slice Au u.length cu) rfl
         have HS' := zaa.mk (zaC HS.out (p := ⟨g6, 0, none⟩) (by show _ ≠ g6; omega) (.slice Au u.length cu))
         have HU' := zaa.mk (zaC HU.out (p := ⟨g6, 0, none⟩) (by show _ ≠ g6; omega) (.slice Au u.length cu))
         have HT' := zaa.mk (Kd.zbK HT.out HV.out (by decide) 0 (.slice Au u.length cu))
         have HB' := zaa.mk (HB.out.setCell (p := ⟨g6, 0, none⟩) (by show _ ≤ g6; omega) (.slice Au u.length cu))
         have HNA : zaa (wr.heap.size ≠ g6) := ⟨by rw [HG6.out]; omega⟩
         have HA' := zaa.mk (zaC HA.out (p := ⟨g6, 0, none⟩) (by exact HNA.out) (.slice Au u.length cu))
         have HTU' := zaa.mk (Kd.zbK HTU.out HV.out (by decide) 0 (.slice Au u.length cu))
         replace HS := HS'
         clear HS'
         replace HU := HU'
         clear HU'
         replace HT := HT'
         clear HT'
         replace HB := HB'
         clear HB'
         replace HA := HA'
         clear HA'
         replace HTU := HTU'
         clear HTU'
         replace HV := zaa.mk hput
         clear hput
         case rel => exact ⟨u, e, Au, cu, rfl, HMU, HE, HS, HU, HT, HB, HV, HTU⟩
      case rest =>
       clear HS HU HT HB HV HA hs0 hs1 hqu hqf ht0 ht1 ht2 ht3 ht4 ht5 ht6 ht7 ht8 ht9 ht10 ht11 hqv hqw
       obtain ⟨u, e, Au, cu, rfl, HMU, HE, HS, HU, HT, HB, HV, HTU⟩ := hcut
       as_aux_lemma =>
        obtain ⟨hs0, hs1⟩ := zbu HS.out
        have hqu := one_cell HU.out
        have hqf := zaf HU.out 0
        have hqv := one_cell HV.out
        have hqw := zaf HV.out 0
        obtain ⟨K1, hK1⟩ := HMU.out.ref
        obtain ⟨K2, hK2⟩ := HMU.out.check
        obtain ⟨K3, hK3⟩ := copyTree u (by have := HMU.out.len; omega) HMU.out.fits.n
        obtain ⟨K4, hK4⟩ := (eqTree u u (by have := HMU.out.len; omega) HMU.out.fits.n).out rfl
        have HK1 := zaa.mk (hK1 K1 (Nat.le_refl _))
        have HK2 := zaa.mk (hK2 K2 (Nat.le_refl _))
        have HK3 := zaa.mk (hK3 K3 (Nat.le_refl _))
        have HK4 := zaa.mk (hK4 K4 (Nat.le_refl _))
        clear hK1 hK2 hK3 hK4
        go_wp2_with (first | (go_at_call 10; refine (t_numW _ _).mono ?_; rintro e w' ⟨rfl, rfl⟩))
        refine (zau.calls K1 Au cu u true _ (Kd.za5 HTU.out).2.2 (Kd.za5 HTU.out).2.1 HK1.out).mono ?_
        rintro e' w7 ⟨rfl, hb⟩
        clear hs0 hs1 hqu hqf hqv hqw
        replace HS := zaa.mk (zaq (by repeat (first | exact HS.out | apply zak | apply zaj | apply zam)) hb)
        replace HU := zaa.mk (zaq (by repeat (first | exact HU.out | apply zak | apply zaj | apply zam)) hb)
        replace HT := zaa.mk (Kd.zbm HT.out hb)
        replace HB := zaa.mk (zai (by repeat (first | exact HB.out | apply zac | apply zab | apply zad | apply zaH)) hb)
        replace HV := zaa.mk (zaq (by repeat (first | exact HV.out | apply zak | apply zaj | apply zam)) hb)
        replace HTU := zaa.mk (Kd.zbm HTU.out hb)
        clear hb
        obtain ⟨hs0, hs1⟩ := zbu HS.out
        have hqu := one_cell HU.out
        have hqf := zaf HU.out 0
        have hqv := one_cell HV.out
        have hqw := zaf HV.out 0
        go_wp2_with (first | (go_at_call 10; refine (t_numW _ _).mono ?_; rintro e w' ⟨rfl, rfl⟩))
        refine (tree_Check.calls K2 Au cu u 0 _ (Kd.za5 HTU.out).2.2 (Kd.za5 HTU.out).2.1 HK2.out).mono ?_
        rintro e' w8 ⟨rfl, hb⟩
        clear hs0 hs1 hqu hqf hqv hqw
        replace HS := zaa.mk (zaq (by repeat (first | exact HS.out | apply zak | apply zaj | apply zam)) hb)
        replace HU := zaa.mk (zaq (by repeat (first | exact HU.out | apply zak | apply zaj | apply zam)) hb)
        replace HT := zaa.mk (Kd.zbm HT.out hb)
        replace HB := zaa.mk (zai (by repeat (first | exact HB.out | apply zac | apply zab | apply zad | apply zaH)) hb)
        replace HV := zaa.mk (zaq (by repeat (first | exact HV.out | apply zak | apply zaj | apply zam)) hb)
        replace HTU := zaa.mk (Kd.zbm HTU.out hb)
        clear hb
        obtain ⟨hs0, hs1⟩ := zbu HS.out
        have hqu := one_cell HU.out
        have hqf := zaf HU.out 0
        have hqv := one_cell HV.out
        have hqw := zaf HV.out 0
        by_cases z0 : e = 0
        ·obtain rfl := z0
         as_aux_lemma =>
          go_wp2_with (first | (go_at_call 10; refine (t_numW _ _).mono ?_; rintro e w' ⟨rfl, rfl⟩))
          refine (zbj.calls K3 Au cu u u _ (Kd.za5 HTU.out).2.2 (Kd.za5 HTU.out).2.1 HK3.out).mono ?_
          rintro e' w9 ⟨vc, rfl, hS, hb⟩
          obtain ⟨Ac, cc, rfl⟩ := Kd.zbc hS
          have HTC := zaa.mk (Kd.za8 hS HB.out.size)
          clear hS
          clear hs0 hs1 hqu hqf hqv hqw
          replace HS := zaa.mk (zaq (by repeat (first | exact HS.out | apply zak | apply zaj | apply zam)) hb)
          replace HU := zaa.mk (zaq (by repeat (first | exact HU.out | apply zak | apply zaj | apply zam)) hb)
          replace HT := zaa.mk (Kd.zbm HT.out hb)
          replace HB := zaa.mk (zai (by repeat (first | exact HB.out | apply zac | apply zab | apply zad | apply zaH)) hb)
          replace HV := zaa.mk (zaq (by repeat (first | exact HV.out | apply zak | apply zaj | apply zam)) hb)
          replace HTU := zaa.mk (Kd.zbm HTU.out hb)
          clear hb
          obtain ⟨hs0, hs1⟩ := zbu HS.out
          have hqu := one_cell HU.out
          have hqf := zaf HU.out 0
          have hqv := one_cell HV.out
          have hqw := zaf HV.out 0
          clear HT HTU HV hqv hqw
          go_wp2
          go_roundg (13 - n)
          case measure => omega
          clear hs0 hs1 hqu hqf
          have hput := zaF HU.out 0 (.slice Ac u.length cc) rfl
          have HS' := zaa.mk (zaC HS.out (p := ⟨g3, 0, none⟩) (by show _ ≠ g3; omega) (.slice Ac u.length cc))
          have HB' := zaa.mk (HB.out.setCell (p := ⟨g3, 0, none⟩) (by show _ ≤ g3; omega) (.slice Ac u.length cc))
          have HTC' := zaa.mk (Kd.zbK HTC.out HU.out (by decide) 0 (.slice Ac u.length cc))
          replace HS := HS'
          clear HS'
          replace HB := HB'
          clear HB'
          replace HTC := HTC'
          clear HTC'
          replace HU := zaa.mk hput
          clear hput
          case rel => exact ⟨n + 1, u, Ac, cc, by omega, by omega, by omega, by go_num, HMU, HS, HU, HTC, HB⟩
        ·as_aux_lemma =>
          have z1 : (e != 0) = true := by simpa using z0
          obtain rfl := HE.out z0
          clear z0
          go_wp2_with (first | (go_at_call 10; refine (t_numW _ _).mono ?_; rintro e w' ⟨rfl, rfl⟩))
          refine (zcd.calls K4 Au cu u At ct u true _ (Kd.za5 HTU.out).2.2 (Kd.za5 HTU.out).2.1 (Kd.za5 HT.out).2.2 (Kd.za5 HT.out).2.1 HK4.out).mono ?_
          rintro e' w9 ⟨rfl, hb⟩
          clear hs0 hs1 hqu hqf hqv hqw
          replace HS := zaa.mk (zaq (by repeat (first | exact HS.out | apply zak | apply zaj | apply zam)) hb)
          replace HU := zaa.mk (zaq (by repeat (first | exact HU.out | apply zak | apply zaj | apply zam)) hb)
          replace HT := zaa.mk (Kd.zbm HT.out hb)
          replace HB := zaa.mk (zai (by repeat (first | exact HB.out | apply zac | apply zab | apply zad | apply zaH)) hb)
          replace HV := zaa.mk (zaq (by repeat (first | exact HV.out | apply zak | apply zaj | apply zam)) hb)
          replace HTU := zaa.mk (Kd.zbm HTU.out hb)
          clear hb
          obtain ⟨hs0, hs1⟩ := zbu HS.out
          have hqu := one_cell HU.out
          have hqf := zaf HU.out 0
          have hqv := one_cell HV.out
          have hqw := zaf HV.out 0
          go_wp2_with (first | (go_at_call 10; refine (t_numW _ _).mono ?_; rintro e w' ⟨rfl, rfl⟩))
          refine (zbj.calls K3 Au cu u u _ (Kd.za5 HTU.out).2.2 (Kd.za5 HTU.out).2.1 HK3.out).mono ?_
          rintro e' w10 ⟨vc, rfl, hS, hb⟩
          obtain ⟨Ac, cc, rfl⟩ := Kd.zbc hS
          have HTC := zaa.mk (Kd.za8 hS HB.out.size)
          clear hS
          clear hs0 hs1 hqu hqf hqv hqw
          replace HS := zaa.mk (zaq (by repeat (first | exact HS.out | apply zak | apply zaj | apply zam)) hb)
          replace HU := zaa.mk (zaq (by repeat (first | exact HU.out | apply zak | apply zaj | apply zam)) hb)
          replace HT := zaa.mk (Kd.zbm HT.out hb)
          replace HB := zaa.mk (zai (by repeat (first | exact HB.out | apply zac | apply zab | apply zad | apply zaH)) hb)
          replace HV := zaa.mk (zaq (by repeat (first | exact HV.out | apply zak | apply zaj | apply zam)) hb)
          replace HTU := zaa.mk (Kd.zbm HTU.out hb)
          clear hb
          obtain ⟨hs0, hs1⟩ := zbu HS.out
          have hqu := one_cell HU.out
          have hqf := zaf HU.out 0
          have hqv := one_cell HV.out
          have hqw := zaf HV.out 0
          clear HT HTU HV hqv hqw
          go_wp2
          go_roundg (13 - n)
          case measure => omega
          clear hs0 hs1 hqu hqf
          have hput := zaF HU.out 0 (.slice Ac u.length cc) rfl
          have HS' := zaa.mk (zaC HS.out (p := ⟨g3, 0, none⟩) (by show _ ≠ g3; omega) (.slice Ac u.length cc))
          have HB' := zaa.mk (HB.out.setCell (p := ⟨g3, 0, none⟩) (by show _ ≤ g3; omega) (.slice Ac u.length cc))
          have HTC' := zaa.mk (Kd.zbK HTC.out HU.out (by decide) 0 (.slice Ac u.length cc))
          replace HS := HS'
          clear HS'
          replace HB := HB'
          clear HB'
          replace HTC := HTC'
          clear HTC'
          replace HU := zaa.mk hput
          clear hput
          case rel => exact ⟨n + 1, u, Ac, cc, by omega, by omega, by omega, by go_num, HMU, HS, HU, HTC, HB⟩
     ·go_wp2_with (first | (go_at_call 16; refine (za4.calls k true _ HWK.out).mono ?_; rintro e w9 ⟨rfl, hb⟩; have HXn := zaa.mk (zai (by repeat (first | exact HB.out | apply zac | apply zab | apply zad | apply zaH)) hb); clear hb))
      go_ret
      exact ⟨rfl, HXn.out⟩
    ·go_wp2_with (first | (go_at_call 16; refine (za4.calls k true _ HWK.out).mono ?_; rintro e w9 ⟨rfl, hb⟩; have HXn := zaa.mk (zai (by repeat (first | exact HB.out | apply zac | apply zab | apply zad | apply zaH)) hb); clear hb))
     go_ret
     exact ⟨rfl, HXn.out⟩
end Go.Proofs.Ytjghephnjkffcaa.PCk
