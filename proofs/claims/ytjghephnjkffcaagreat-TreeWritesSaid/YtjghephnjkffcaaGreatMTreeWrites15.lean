/- Parts of one proof, merged by a program of this repo: walks over the given program and plain facts. -/
import Derived.Test.YtjghephnjkffcaaGreatMTreeWrites13
import Derived.Test.YtjghephnjkffcaaGreatMTreeWrites14
import Derived.Test.YtjghephnjkffcaaGreatMTreeWrites4
import Derived.Test.YtjghephnjkffcaaGreatMTreeWrites8
import Derived.Test.YtjghephnjkffcaaGreatMTreeWrites10
import Derived.Test.YtjghephnjkffcaaGreatMTreeWrites2
import Derived.Deep.LoopGhost
import Derived.Deep.DeepCutAuto
namespace Go.Proofs.YtjghephnjkffcaaGreat.PAll
open Go.RowKit Go.Proofs.YtjghephnjkffcaaGreatW.PrintWords Go.Proofs.YtjghephnjkffcaaGreatW.PrintLast Go.Proofs.YtjghephnjkffcaaGreatW.PrintMore
attribute [local go_sem] zb2 zb0 zcn zcm zbF zbE zb1 zbZ
set_option linter.unusedVariables false
set_option linter.unusedSimpArgs false
theorem two_cellsO {W : World} {g : Nat} {a b : Value} {t : TypeId} (h : W.heap[g]? = some (.cells #[a, b] t (0, 0))) : W.cell? ⟨g, 0, none⟩ = some a ∧ W.cell? ⟨g, 1, none⟩ = some b := ⟨(zac h 0).trans rfl, (zac h 1).trans rfl⟩
theorem act_cellsO {W w : World} {A : Option Addr} {n : Nat} {l : List S44} (h : Kd.C k44 w A n l) (hb : Below w.heap.size w W) (i : Nat) (hi : i < n) : ∃ ad X y, A = some ad ∧ W.cell? (ad.add (i * 12)) = some (.int .i64 (zaU l i).f0) ∧ W.cell? ⟨(ad.add (i * 12)).block, (ad.add (i * 12)).off + 1, none⟩ = some (.int .i64 (zaU l i).f1) ∧ W.cell? ⟨(ad.add (i * 12)).block, (ad.add (i * 12)).off + 2, none⟩ = some (.int .i64 (zaU l i).f2) ∧ W.cell? ⟨(ad.add (i * 12)).block, (ad.add (i * 12)).off + 3, none⟩ = some (.int .i64 (zaU l i).f3) ∧ W.cell? ⟨(ad.add (i * 12)).block, (ad.add (i * 12)).off + 4, none⟩ = some (.string (zaU l i).f4) ∧ W.cell? ⟨(ad.add (i * 12)).block, (ad.add (i * 12)).off + 5, none⟩ = some (.string (zaU l i).f5) ∧ W.cell? ⟨(ad.add (i * 12)).block, (ad.add (i * 12)).off + 6, none⟩ = some (.int .i64 (zaU l i).f6) ∧ W.cell? ⟨(ad.add (i * 12)).block, (ad.add (i * 12)).off + 7, none⟩ = some (.bool (zaU l i).f7) ∧ W.cell? ⟨(ad.add (i * 12)).block, (ad.add (i * 12)).off + 8, none⟩ = some (.int .i64 (zaU l i).f8) ∧ W.cell? ⟨(ad.add (i * 12)).block, (ad.add (i * 12)).off + 9, none⟩ = some (.int .i64 (zaU l i).f9) ∧ W.cell? ⟨(ad.add (i * 12)).block, (ad.add (i * 12)).off + 10, none⟩ = some (.slice X (zaU l i).f10.length y) ∧ W.cell? ⟨(ad.add (i * 12)).block, (ad.add (i * 12)).off + 11, none⟩ = some (.int .i64 (zaU l i).f11) ∧ (zaU l i).f10.length ≤ y ∧ Kd.C (Kd.int .u8) w X (zaU l i).f10.length (zaU l i).f10 := by
 obtain ⟨ad, X, y, ee, h0, h1, h2, h3, h4, h5, h6, h7, h8, h9, h10, h11, hy, hC⟩ := at_T44 h (i : Int) (by omega) (by omega)
 rw [Int.toNat_natCast] at h0 h1 h2 h3 h4 h5 h6 h7 h8 h9 h10 h11
 have up : ∀ {a : Addr} {v : Value}, w.cell? a = some v → W.cell? a = some v := fun h => (hb.cell (World.block_lt_of_cell? _ _ h)).trans h
 exact ⟨ad, X, y, ee, up h0, up h1, up h2, up h3, up h4, up h5, up h6, up h7, up h8, up h9, up h10, up h11, hy, hC⟩
set_option maxHeartbeats 8000000 in
set_option maxRecDepth 100000 in
theorem gangwaylaw13_only.write (k : Nat) (A0 : Option Addr) (c0 : Nat) (l0 : List S40) (A1 : Option Addr) (c1 : Nat) (l1 : List S44) (w : World) (hr0 : Kd.C k40 w A0 l0.length l0) (hc0 : l0.length ≤ c0) (hr1 : Kd.C k44 w A1 l1.length l1) (hc1 : l1.length ≤ c1)
  (hv : Bool) (hH : zaV.f k l0 l1 = some hv) (hT : hv = false → za2.f k = some true ∧ ∀ n : Nat, n < l1.length → WritesAt k l0 (zaU l1 (n : Int)).f1 (zaU l1 (n : Int)).f2 (zaU l1 (n : Int)).f8 (zaU l1 (n : Int)).f10 (zaU l1 (n : Int)).f11) :
  Calls Tryz.prog 11 #[.agg #[.slice A0 l0.length c0, .slice A1 l1.length c1], .int .i64 9] w fun e w' => e = .returned (.bool true) ∧ Below w.heap.size w w' := by
 have HR0 := zaa.mk hr0
 have HC0 := zaa.mk hc0
 have HR1 := zaa.mk hr1
 have HC1 := zaa.mk hc1
 have HH := zaa.mk hH
 have HT0 := zaa.mk hT
 have hut := Tryz.underlying24
 have hus := Tryz.underlying27
 have hun := Tryz.underlying40
 have hua := Tryz.underlying44
 have HB := zaa.mk (zad (Below.refl w.heap.size w) (.cells #[.slice A0 l0.length c0, .slice A1 l1.length c1] 27))
 have HBS := zaa.mk (zbb w (.cells #[.slice A0 l0.length c0, .slice A1 l1.length c1] 27))
 obtain ⟨hs0, hs1⟩ := two_cellsO HBS.out
 clear hr0 hc0 hr1 hc1 hH hT
 cases hv with
 | true =>
  clear HT0
  go_enter Tryz.func11, Tryz.ntmps11
  go_wp2_with (first | (go_at_call 12; refine (zaV.calls k _ c0 l0 A1 c1 l1 _ _ (Kd.C_below HR0.out HB.out) HC0.out (Kd.C_below HR1.out HB.out) HC1.out HH.out).mono ?_; rintro e w1 ⟨rfl, hb⟩; replace HB := zaa.mk (zam HB.out hb); replace HBS := zaa.mk (zan HBS.out hb); clear hb))
  go_ret
  exact ⟨rfl, HB.out⟩
 | false =>
  obtain ⟨hwk, hfr⟩ := HT0.out rfl
  have HWK := zaa.mk hwk
  have HFA := zaa.mk hfr
  clear HT0 hwk hfr
  go_enter Tryz.func11, Tryz.ntmps11
  go_wp2_with (first | (go_at_call 12; refine (zaV.calls k _ c0 l0 A1 c1 l1 _ _ (Kd.C_below HR0.out HB.out) HC0.out (Kd.C_below HR1.out HB.out) HC1.out HH.out).mono ?_; rintro e w1 ⟨rfl, hb⟩; replace HB := zaa.mk (zam HB.out hb); replace HBS := zaa.mk (zan HBS.out hb); clear hb))
  clear hs0 hs1
  go_loopg [5] 14 (fun gk v5 w' => ∃ n : Nat, n ≤ l1.length ∧ n ≤ 14 ∧ gk = 14 - n ∧ v5 = .int .i64 n ∧ zaa (w'.heap[w.heap.size]? = some (.cells #[.slice A0 l0.length c0, .slice A1 l1.length c1] 27 (0, 0))) ∧ zaa (Below w.heap.size w w'))
  case atStart => exact ⟨0, Nat.zero_le _, Nat.zero_le _, rfl, rfl, HBS, HB⟩
  case round =>
   clear HBS HB
   obtain ⟨n, hn, hn14, hgk, rfl, HBS, HB⟩ := hrel
   obtain ⟨hs0, hs1⟩ := two_cellsO HBS.out
   have hmax := HR1.out.2.1
   by_cases hlt : n < l1.length
   ·by_cases h6 : n < 14
    ·have h7 := h6
     obtain ⟨aa, X, y, rfl, hx0, hx1, hx2, hx3, hx4, hx5, hx6, hx7, hx8, hx9, hx10, hx11, hy, hC⟩ := act_cellsO HR1.out HB.out n hlt
     go_upto_region 8 with (fail)
     have HS' := zaa.mk (zai HBS.out (.cells #[.int .i64 9, .int .i64 (zaU l1 n).f1, .int .i64 (zaU l1 n).f2, .int .i64 (zaU l1 n).f3, .string (zaU l1 n).f4, .string (zaU l1 n).f5, .int .i64 (zaU l1 n).f6, .bool (zaU l1 n).f7, .int .i64 (zaU l1 n).f8, .int .i64 (zaU l1 n).f9, .slice X (zaU l1 n).f10.length y, .int .i64 (zaU l1 n).f11] 44))
     have HT' := zaa.mk (zbb wr (.cells #[.int .i64 9, .int .i64 (zaU l1 n).f1, .int .i64 (zaU l1 n).f2, .int .i64 (zaU l1 n).f3, .string (zaU l1 n).f4, .string (zaU l1 n).f5, .int .i64 (zaU l1 n).f6, .bool (zaU l1 n).f7, .int .i64 (zaU l1 n).f8, .int .i64 (zaU l1 n).f9, .slice X (zaU l1 n).f10.length y, .int .i64 (zaU l1 n).f11] 44))
     have HB' := zaa.mk (zad HB.out (.cells #[.int .i64 9, .int .i64 (zaU l1 n).f1, .int .i64 (zaU l1 n).f2, .int .i64 (zaU l1 n).f3, .string (zaU l1 n).f4, .string (zaU l1 n).f5, .int .i64 (zaU l1 n).f6, .bool (zaU l1 n).f7, .int .i64 (zaU l1 n).f8, .int .i64 (zaU l1 n).f9, .slice X (zaU l1 n).f10.length y, .int .i64 (zaU l1 n).f11] 44))
     clear HBS HB hs0 hs1 hx0 hx1 hx2 hx3 hx4 hx5 hx6 hx7 hx8 hx9 hx10 hx11
     obtain ⟨hs0, hs1⟩ := two_cellsO HS'.out
     have ht0 := (zac HT'.out 0).trans rfl
     have ht1 := (zac HT'.out 1).trans rfl
     have ht2 := (zac HT'.out 2).trans rfl
     have ht3 := (zac HT'.out 3).trans rfl
     have ht4 := (zac HT'.out 4).trans rfl
     have ht5 := (zac HT'.out 5).trans rfl
     have ht6 := (zac HT'.out 6).trans rfl
     have ht7 := (zac HT'.out 7).trans rfl
     have ht8 := (zac HT'.out 8).trans rfl
     have ht9 := (zac HT'.out 9).trans rfl
     have ht10 := (zac HT'.out 10).trans rfl
     have ht11 := (zac HT'.out 11).trans rfl
     obtain HAT := HFA.out n hlt
     go_wp2_with fail
     obtain ⟨m, tm, b1, b2, r1, e1, g0, g00, g1, g2, g3, g4, g5, g6, g7, g8, g9, g10, g11⟩ := HAT
     refine (gangwaylaw13_step.write k A0 c0 l0 (zaU l1 n) X y _ (Kd.C_below HR0.out HB'.out) HC0.out (Kd.C_below hC HB'.out) hy g0 g00 m tm b1 b2 r1 e1 g1 g2 g3 g4 g5 g6 g7 g8 g9 g10 g11).mono ?_
     rintro e' w5 ⟨⟨Ax, qx, cx, rfl⟩, hb⟩
     have HS5 := zaa.mk (zan HS'.out hb)
     have HB5 := zaa.mk (zam HB'.out hb)
     clear hb
     go_upto_region 9 with (fail)
     have HS6 := zaa.mk (zai HS5.out (.cells #[.slice Ax qx cx] 24))
     have HB6 := zaa.mk (zad HB5.out (.cells #[.slice Ax qx cx] 24))
     go_wp2
     go_roundg (13 - n)
     case measure => omega
     case rel => exact ⟨n + 1, by omega, by omega, by omega, by go_num, HS6, HB6⟩
    ·go_wp2_with (first | (go_at_call 20; refine (za2.calls k true _ HWK.out).mono ?_; rintro e w9 ⟨rfl, hb⟩; have HXn := zaa.mk (zam (by repeat (first | exact HB.out | apply zad | apply zab | apply zae | apply zaB)) hb); clear hb))
     go_ret
     exact ⟨rfl, HXn.out⟩
   ·go_wp2_with (first | (go_at_call 20; refine (za2.calls k true _ HWK.out).mono ?_; rintro e w9 ⟨rfl, hb⟩; have HXn := zaa.mk (zam (by repeat (first | exact HB.out | apply zad | apply zab | apply zae | apply zaB)) hb); clear hb))
    go_ret
    exact ⟨rfl, HXn.out⟩
end Go.Proofs.YtjghephnjkffcaaGreat.PAll
