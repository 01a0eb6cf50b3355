/- Parts of one proof, merged by a program of this repo: walks over the given program and plain facts. -/
import Derived.Test.YtjghephnjkffcaaGreatMTreeWrites2
import Derived.Test.YtjghephnjkffcaaGreatMTreeWrites4
import Derived.Test.YtjghephnjkffcaaGreatMTreeWrites6
import Derived.Test.YtjghephnjkffcaaGreatMTreeWrites7
import Derived.Test.YtjghephnjkffcaaGreatMTreeWrites5
namespace Go.Proofs.YtjghephnjkffcaaGreat.PAll
open Go.RowKit Go.Proofs.YtjghephnjkffcaaGreatW.PrintWords Go.Proofs.YtjghephnjkffcaaGreatW.PrintLast Go.Proofs.YtjghephnjkffcaaGreatW.PrintMore
attribute [local go_sem] zb2 zb0 zcn zcm zbF zbE zb1 zbZ
set_option linter.unusedVariables false
set_option linter.unusedSimpArgs false
def cNames (l : List S40) : List S50 → List Int → Option (List Int)
 | [], c => some c
 | x :: r, c => if x.f1 < 1 then none else if (l.length : Int) ≤ x.f1 then none else if (zah l x.f1).f0 = 0 then none else cNames l r (c.set x.f1.toNat (wrap64 (rd c x.f1 + 1)))
theorem cNames_drop (l : List S40) (ns : List S50) (i : Nat) (h : i < ns.length) (c : List Int) : cNames l (ns.drop i) c = if (zau ns i).f1 < 1 then none else if (l.length : Int) ≤ (zau ns i).f1 then none else if (zah l (zau ns i).f1).f0 = 0 then none else cNames l (ns.drop (i + 1)) (c.set (zau ns i).f1.toNat (wrap64 (rd c (zau ns i).f1 + 1))) := by
 rw [List.drop_eq_getElem_cons h]
 have e : zau ns (i : Int) = ns[i] := by simp [zau, List.getD, List.getElem?_eq_getElem h]
 rw [cNames, e]
def rnode (k : Nat) (x : S40) : Option Bool := zaq.f k x.f0 x.f1 x.f2 x.f3 x.f4 x.f5
def cNodes (l : List S40) (k : Nat) : Nat → Nat → List Int → Option (Option (List Int))
 | 0, _, c => some (some c)
 | d + 1, i, c => (rnode k (zah l (i : Int))).bind fun b => if b = true then (match cNames l (zah l (i : Int)).f2 c with | none => some none | some c' => cNodes l k d (i + 1) c') else some none
def badR (l : List S40) (c : List Int) (i : Nat) : Bool :=
 ((zah l (i : Int)).f0 != 0 && (zah l (i : Int)).f4 != rd c (i : Int)) || ((zah l (i : Int)).f0 == 2 && (decide (1 < (zah l (i : Int)).f4) || ((zah l (i : Int)).f4 == 0 && decide (0 < (zah l (i : Int)).f2.length))))
def goodR (l : List S40) (c : List Int) (n : Nat) : Bool := (List.range n).all fun i => !badR l c i
theorem goodR_succ (l : List S40) (c : List Int) (n : Nat) : goodR l c (n + 1) = (goodR l c n && !badR l c n) := by
 unfold goodR; rw [List.range_succ, List.all_append]; simp
theorem goodR_false {l : List S40} {c : List Int} {i n : Nat} (hi : i < n) (h : badR l c i = true) : goodR l c n = false := by
 unfold goodR; rw [List.all_eq_false]; exact ⟨i, List.mem_range.2 hi, by simp [h]⟩
def mayE (l : List S40) (k : Nat) : Option (List Int) → Option Bool
 | none => some false
 | some c => if goodR l c l.length = true then zax.f k l else some false
def zas.f (k : Nat) (l0_0 : List S40) : Option Bool := if zbK l0_0 = true then (cNodes l0_0 k l0_0.length 0 ((List.replicate 64 0).set 0 1)).bind fun o => mayE l0_0 k o else some false
def cntA (c : List Int) : Array Value := (c.map (Value.int .i64)).toArray
theorem cntA_cell (c : List Int) (i : Int) (h0 : 0 ≤ i) (h1 : i < (c.length : Int)) : (cntA c)[i.toNat]? = some (.int .i64 (rd c i)) := by
 have hh : i.toNat < c.length := by omega
 simp [cntA, rd, List.getElem?_map, List.getElem?_eq_getElem hh, List.getD_eq_getElem?_getD]
theorem cntA_set (c : List Int) (i : Nat) (x : Int) : (cntA c).setIfInBounds i (.int .i64 x) = cntA (c.set i x) := by
 apply Array.ext'
 simp [cntA, List.map_set]
theorem head_yes {l : List S40} (h1 : 0 < l.length) (h2 : l.length ≤ 64) (h3 : ¬ (1 < l.length ∧ (zah l ((l.length : Int) - 1)).f0 = 0)) (h4 : (zah l 0).f0 = 2) (h5 : (zah l 0).f4 = 1) : zbK l = true := by
 have e : (decide (1 < l.length) && (zah l ((l.length : Int) - 1)).f0 == 0) = false := by
  rw [Bool.eq_false_iff]; intro h; rw [Bool.and_eq_true] at h; exact h3 ⟨of_decide_eq_true h.1, beq_iff_eq.1 h.2⟩
 unfold zbK; rw [e, decide_eq_true h1, decide_eq_true h2, h4, h5]; rfl
def zas.W1 (w : World) (A : Option Addr) (n c : Nat) : World := w.alloc (.cells #[.slice A n c] 24)
theorem zas.zbd (w : World) (A : Option Addr) (n c : Nat) : Below w.heap.size w (zas.W1 w A n c) := zad (Below.refl _ _) _
theorem zas.W1_size (w : World) (A : Option Addr) (n c : Nat) : (zas.W1 w A n c).heap.size = w.heap.size + 1 := World.size_alloc _ _
theorem zas.zb3 {w w' : World} {A : Option Addr} {n c : Nat} (h : Below (zas.W1 w A n c).heap.size (zas.W1 w A n c) w') : w'.cell? ⟨w.heap.size, 0, none⟩ = some (.slice A n c) :=
 (zac ((h.block w.heap.size (by show _ < (w.alloc _).heap.size; simp)).trans (zbb w _)) 0).trans rfl
set_option maxHeartbeats 8000000 in
set_option maxRecDepth 100000 in
theorem zas.calls (k : Nat) (A0_0 : Option Addr) (c0_0 : Nat) (l0_0 : List S40) (r : Bool) (w : World) (hr0_0 : Kd.C k40 w A0_0 l0_0.length l0_0) (hc0_0 : l0_0.length ≤ c0_0) (h : zas.f k l0_0 = some r) :
  Calls Tryz.prog 14 #[.agg #[.slice A0_0 l0_0.length c0_0]] w fun e w' => e = .returned (.bool r) ∧ Below w.heap.size w w' := by
 unfold zas.f at h
 have HR := zaa.mk (Kd.C_below hr0_0 (zas.zbd w A0_0 l0_0.length c0_0))
 have HC := zaa.mk hc0_0
 have hut := Tryz.underlying24
 have hun := Tryz.underlying40
 have HSZ := zaa.mk (zas.W1_size w A0_0 l0_0.length c0_0)
 clear hr0_0 hc0_0
 by_cases c1 : 0 < l0_0.length
 ·have n1 : decide ((l0_0.length : Int) < 1) = false := decide_eq_false (by omega)
  have n1b : decide (l0_0.length < 1) = false := decide_eq_false (by omega)
  by_cases c2 : l0_0.length ≤ 64
  ·have n2 : decide ((64 : Int) < (l0_0.length : Int)) = false := decide_eq_false (by omega)
   have n2b : decide (64 < l0_0.length) = false := decide_eq_false (by omega)
   obtain ⟨ad, B1, d1, B2, d2, rfl, hx0, hx1, hx2, hx3, hx4, hx5, _, _, _, _⟩ := zbc HR.out 0 (by omega) (by omega)
   replace hx0 : (zas.W1 w (some ad) l0_0.length c0_0).cell? ad = some (.int .i64 (zah l0_0 0).f0) := by rw [← hx0]; congr 1
   replace hx4 : (zas.W1 w (some ad) l0_0.length c0_0).cell? ⟨ad.block, ad.off + 4, none⟩ = some (.int .i64 (zah l0_0 0).f4) := by rw [← hx4]; congr 1
   unfold zas.W1 at hx0 hx4
   have hpos : 0 < l0_0.length := c1
   have hmax : l0_0.length ≤ 9223372036854775807 := by omega
   clear hx1 hx2 hx3 hx5
   have HC1 := zaa.mk c1
   have HC2 := zaa.mk c2
   clear c1 c2
   by_cases c5 : (zah l0_0 0).f0 = 2
   ·have n5 : ((zah l0_0 0).f0 != 2) = false := by simpa using c5
    by_cases c6 : (zah l0_0 0).f4 = 1
    ·have n6 : ((zah l0_0 0).f4 != 1) = false := by simpa using c6
     by_cases c7 : 1 < l0_0.length ∧ (zah l0_0 ((l0_0.length : Int) - 1)).f0 = 0
     ·obtain ⟨c3, c4⟩ := c7
      have n3 : decide ((1 : Int) < (l0_0.length : Int)) = true := decide_eq_true (by omega)
      have n3b : decide (1 < l0_0.length) = true := decide_eq_true (by omega)
      obtain ⟨ad3, B3, d3, B4, d4, e3, hz0, hz1, hz2, hz3, hz4, hz5, _, _, _, _⟩ := zbc HR.out ((l0_0.length : Int) - 1) (by omega) (by omega)
      cases e3
      rw [show ((l0_0.length : Int) - 1).toNat = l0_0.length - 1 by omega] at hz0
      have hp3 : 1 ≤ l0_0.length := by omega
      unfold zas.W1 at hz0
      have n4 : ((zah l0_0 ((l0_0.length : Int) - 1)).f0 == 0) = true := by simpa using c4
      have HF : zaa (zbK l0_0 = false) := ⟨by unfold zbK; simp [c3, c4]⟩
      clear hz1 hz2 hz3 hz4 hz5 c3 c4 c5 c6
      rw [HF.out] at h
      have HH := zaa.mk (Option.some.inj h)
      clear h
      go_enter Tryz.func14, Tryz.ntmps14
      go_wp2
      go_ret
      exact ⟨by rw [← HH.out]; rfl, zas.zbd _ _ _ _⟩
     ·have HEAD : zaa (zbK l0_0 = true) := ⟨head_yes HC1.out HC2.out c7 c5 c6⟩
      have HC7 := zaa.mk c7
      rw [if_pos HEAD.out] at h
      obtain ⟨O, hO, hE⟩ := Option.bind_eq_some_iff.mp h
      have HH := zaa.mk hO
      have HRES := zaa.mk hE
      clear h hO hE c5 c6 c7
      go_enter Tryz.func14, Tryz.ntmps14
      go_upto_region 3 with (fail)
      go_cut [50] (fun v50 wc => v50 = .bool false ∧ wc = w.alloc (.cells #[.slice (some ad) l0_0.length c0_0] 24))
      case first =>
       clear HRES HH HEAD hx0 hx4
       by_cases c3 : 1 < l0_0.length
       ·have n3 : decide ((1 : Int) < (l0_0.length : Int)) = true := decide_eq_true (by omega)
        have n3b : decide (1 < l0_0.length) = true := decide_eq_true (by omega)
        obtain ⟨ad3, B3, d3, B4, d4, e3, hz0, hz1, hz2, hz3, hz4, hz5, _, _, _, _⟩ := zbc HR.out ((l0_0.length : Int) - 1) (by omega) (by omega)
        cases e3
        rw [show ((l0_0.length : Int) - 1).toNat = l0_0.length - 1 by omega] at hz0
        have hp3 : 1 ≤ l0_0.length := by omega
        unfold zas.W1 at hz0
        have n4 : ((zah l0_0 ((l0_0.length : Int) - 1)).f0 == 0) = false := beq_eq_false_iff_ne.2 (fun e => HC7.out ⟨c3, e⟩)
        clear hz1 hz2 hz3 hz4 hz5 c3
        go_wp2
        go_meet
        case rel => exact ⟨rfl, rfl⟩
       ·have n3 : decide ((1 : Int) < (l0_0.length : Int)) = false := decide_eq_false (by omega)
        have n3b : decide (1 < l0_0.length) = false := decide_eq_false (by omega)
        clear c3
        go_wp2
        go_meet
        case rel => exact ⟨rfl, rfl⟩
      case rest =>
       obtain ⟨rfl, rfl⟩ := hcut
       clear hx0 hx4
       have hct := zas.zb3 (Below.refl (zas.W1 w (some ad) l0_0.length c0_0).heap.size (zas.W1 w (some ad) l0_0.length c0_0))
       go_wp2
       go_loopw [4] (fun v4 w' => ∃ (i : Nat) (c : List Int), i ≤ l0_0.length ∧ v4 = .int .i64 i ∧ zaa (cNodes l0_0 k (l0_0.length - i) i c = some O) ∧ zaa (c.length = 64) ∧ zaa (w'.heap[w.heap.size + 1]? = some (.cells (cntA c) 47 (0, 0))) ∧ zaa (Below (zas.W1 w (some ad) l0_0.length c0_0).heap.size (zas.W1 w (some ad) l0_0.length c0_0) w')) (fun v4 _ => l0_0.length - (intOf v4).toNat)
       case atStart =>
        exact ⟨0, _, Nat.zero_le _, rfl, HH, ⟨by kernel_rfl⟩, ⟨by have := zbb (zas.W1 w (some ad) l0_0.length c0_0) (.cells (cntA ((List.replicate 64 0).set 0 1)) 47); rw [HSZ.out] at this; exact this⟩, ⟨zad (Below.refl _ _) _⟩⟩
       case round =>
        clear HH hct
        obtain ⟨i, c, hi, rfl, HND, HCL, HG, HB⟩ := hrel
        have hct := zas.zb3 HB.out
        have hmax : l0_0.length ≤ 9223372036854775807 := by have := HC2.out; omega
        by_cases hlt : i < l0_0.length
        ·obtain ⟨d0, hd0⟩ : ∃ d0, l0_0.length - i = d0 + 1 := ⟨l0_0.length - i - 1, by omega⟩
         have hd1 : l0_0.length - (i + 1) = d0 := by omega
         have hd := HND.out
         rw [hd0, cNodes] at hd
         obtain ⟨b, hb, hd⟩ := Option.bind_eq_some_iff.mp hd
         rw [← hd1] at hd
         have HD := zaa.mk hd
         have HND1 := zaa.mk (show zaq.f k (zah l0_0 (i : Int)).f0 (zah l0_0 (i : Int)).f1 (zah l0_0 (i : Int)).f2 (zah l0_0 (i : Int)).f3 (zah l0_0 (i : Int)).f4 (zah l0_0 (i : Int)).f5 = some b from hb)
         clear hd0 hd1 hd hb HND
         obtain ⟨na, A1, e1, A2, e2, ee, hx0, hx1, hx2, hx3, hx4, hx5, hl1, hi1, hl2, hi2⟩ := zbc HR.out (i : Int) (by omega) (by omega)
         obtain rfl := Option.some.inj ee
         replace hx0 := (HB.out.cell (World.block_lt_of_cell? _ _ hx0)).trans hx0
         replace hx1 := (HB.out.cell (World.block_lt_of_cell? _ _ hx1)).trans hx1
         have HX2 := zaa.mk hx2
         replace hx2 := (HB.out.cell (World.block_lt_of_cell? _ _ hx2)).trans hx2
         replace hx3 := (HB.out.cell (World.block_lt_of_cell? _ _ hx3)).trans hx3
         replace hx4 := (HB.out.cell (World.block_lt_of_cell? _ _ hx4)).trans hx4
         replace hx5 := (HB.out.cell (World.block_lt_of_cell? _ _ hx5)).trans hx5
         rw [Int.toNat_natCast] at hx0 hx1 hx2 hx3 hx4 hx5
         have HI1 := zaa.mk hi1
         have HI2 := zaa.mk hi2
         have HLL := zaa.mk (show _ ∧ _ from ⟨hl1, hl2⟩)
         have HM2 := zaa.mk hi2.2.1
         clear hl1 hi1 hl2 hi2 ee
         cases b with
         | false =>
          obtain rfl := Option.some.inj (show some none = some O from HD.out)
          clear HD
          have HRR := zaa.mk (Option.some.inj (show some false = some r from HRES.out))
          go_wp2_with (first | (go_at_call 23; refine (zaq.calls k _ A1 e1 _ A2 e2 _ _ _ _ false _ (Kd.C_below HI1.out HB.out) HLL.out.1 (Kd.C_below HI2.out HB.out) HLL.out.2 HND1.out).mono ?_; rintro e w1 ⟨rfl, hb⟩; have HB1 := zaa.mk (zam HB.out hb); clear hb))
          go_ret
          exact ⟨by rw [← HRR.out]; rfl, zam (zas.zbd _ _ _ _) HB1.out⟩
         | true =>
          have hd := HD.out
          rw [if_pos rfl] at hd
          have HD2 := zaa.mk hd
          clear hd HD
          go_wp2_with (first | (go_at_call 23; refine (zaq.calls k _ A1 e1 _ A2 e2 _ _ _ _ true _ (Kd.C_below HI1.out HB.out) HLL.out.1 (Kd.C_below HI2.out HB.out) HLL.out.2 HND1.out).mono ?_; rintro e w1 ⟨rfl, hb⟩; have HB1 := zaa.mk (zam HB.out hb); have HG1 := zaa.mk (zan HG.out hb); clear hb))
          go_loopw [5] (fun v5 w' => ∃ (j : Nat) (c1 : List Int), j ≤ (zah l0_0 i).f2.length ∧ v5 = .int .i64 j ∧ zaa (cNames l0_0 ((zah l0_0 (i : Int)).f2.drop j) c1 = cNames l0_0 (zah l0_0 (i : Int)).f2 c) ∧ zaa (c1.length = 64) ∧ zaa (w'.heap[w.heap.size + 1]? = some (.cells (cntA c1) 47 (0, 0))) ∧ zaa (Below (zas.W1 w (some ad) l0_0.length c0_0).heap.size (zas.W1 w (some ad) l0_0.length c0_0) w')) (fun v5 _ => (zah l0_0 i).f2.length - (intOf v5).toNat)
          case atStart => exact ⟨0, _, Nat.zero_le _, rfl, ⟨rfl⟩, HCL, HG1, HB1⟩
          case round =>
           clear HG1 HB1 HG HB hct hx0 hx1 hx2 hx3 hx4 hx5 HND1
           obtain ⟨j, c1, hj, rfl, HE, HCL1, HG, HB⟩ := hrel
           have hct := zas.zb3 HB.out
           have hmax2 := HM2.out
           have hx2 := (HB.out.cell (World.block_lt_of_cell? _ _ HX2.out)).trans HX2.out
           rw [Int.toNat_natCast] at hx2
           by_cases hlj : j < (zah l0_0 i).f2.length
           ·have hd := HE.out
            rw [cNames_drop l0_0 _ j hlj] at hd
            obtain ⟨am, rfl, hz0, hz1⟩ := zb4 HI2.out (j : Int) (by omega) (by omega)
            clear hz0
            replace hz1 := (HB.out.cell (World.block_lt_of_cell? _ _ hz1)).trans hz1
            rw [Int.toNat_natCast] at hz1
            by_cases q1 : (zau (zah l0_0 i).f2 j).f1 < 1
            ·have m1 : decide ((zau (zah l0_0 i).f2 j).f1 < 1) = true := decide_eq_true q1
             rw [if_pos q1] at hd
             have h2 := HD2.out
             rw [← hd] at h2
             obtain rfl := Option.some.inj (show some none = some O from h2)
             have HRR := zaa.mk (Option.some.inj (show some false = some r from HRES.out))
             clear q1 hd h2
             go_wp2
             go_ret
             exact ⟨by rw [← HRR.out]; rfl, zam (zas.zbd _ _ _ _) HB.out⟩
            ·have m1 : decide ((zau (zah l0_0 i).f2 j).f1 < 1) = false := decide_eq_false q1
             rw [if_neg q1] at hd
             by_cases q2 : (l0_0.length : Int) ≤ (zau (zah l0_0 i).f2 j).f1
             ·have m2 : decide ((l0_0.length : Int) ≤ (zau (zah l0_0 i).f2 j).f1) = true := decide_eq_true q2
              rw [if_pos q2] at hd
              have h2 := HD2.out
              rw [← hd] at h2
              obtain rfl := Option.some.inj (show some none = some O from h2)
              have HRR := zaa.mk (Option.some.inj (show some false = some r from HRES.out))
              clear q1 q2 hd h2
              go_wp2
              go_ret
              exact ⟨by rw [← HRR.out]; rfl, zam (zas.zbd _ _ _ _) HB.out⟩
             ·have m2 : decide ((l0_0.length : Int) ≤ (zau (zah l0_0 i).f2 j).f1) = false := decide_eq_false q2
              rw [if_neg q2] at hd
              have p0 := eq_true (show 0 ≤ (zau (zah l0_0 i).f2 j).f1 by omega)
              have p1 := eq_true (show (zau (zah l0_0 i).f2 j).f1 < (l0_0.length : Int) by omega)
              have p2 := eq_true (show (zau (zah l0_0 i).f2 j).f1 < 64 by have := HC2.out; omega)
              obtain ⟨nb, B3, d3, B4, d4, e4, hw0, hw1, hw2, hw3, hw4, hw5, hm1, ji1, hm2, ji2⟩ := zbc HR.out (zau (zah l0_0 i).f2 j).f1 (by omega) (by omega)
              obtain rfl := Option.some.inj e4
              clear hw1 hw2 hw3 hw4 hw5 hm1 ji1 hm2 ji2 e4
              replace hw0 := (HB.out.cell (World.block_lt_of_cell? _ _ hw0)).trans hw0
              by_cases q3 : (zah l0_0 (zau (zah l0_0 i).f2 j).f1).f0 = 0
              ·have m3 : ((zah l0_0 (zau (zah l0_0 i).f2 j).f1).f0 == 0) = true := by simpa using q3
               rw [if_pos q3] at hd
               have h2 := HD2.out
               rw [← hd] at h2
               obtain rfl := Option.some.inj (show some none = some O from h2)
               have HRR := zaa.mk (Option.some.inj (show some false = some r from HRES.out))
               clear q1 q2 q3 hd h2
               go_wp2
               go_ret
               exact ⟨by rw [← HRR.out]; rfl, zam (zas.zbd _ _ _ _) HB.out⟩
              ·have m3 : ((zah l0_0 (zau (zah l0_0 i).f2 j).f1).f0 == 0) = false := by simpa using q3
               rw [if_neg q3] at hd
               have HE1 := zaa.mk hd
               have hcc := (zac HG.out (zau (zah l0_0 i).f2 j).f1.toNat).trans (cntA_cell c1 (zau (zah l0_0 i).f2 j).f1 (by omega) (by have := HCL1.out; have := HC2.out; omega))
               have hcf := zaf HG.out (zau (zah l0_0 i).f2 j).f1.toNat
               have HG2 : zaa ((wr.setCell ⟨w.heap.size + 1, (zau (zah l0_0 i).f2 j).f1.toNat, none⟩ (.int .i64 (wrap64 (rd c1 (zau (zah l0_0 i).f2 j).f1 + 1)))).heap[w.heap.size + 1]? = some (.cells (cntA (c1.set (zau (zah l0_0 i).f2 j).f1.toNat (wrap64 (rd c1 (zau (zah l0_0 i).f2 j).f1 + 1)))) 47 (0, 0))) := ⟨by rw [← cntA_set]; exact blk_set HG.out _ _⟩
               have HB2 := zaa.mk (HB.out.setCell (p := ⟨w.heap.size + 1, (zau (zah l0_0 i).f2 j).f1.toNat, none⟩) (by rw [HSZ.out]; exact Nat.le_refl _) (.int .i64 (wrap64 (rd c1 (zau (zah l0_0 i).f2 j).f1 + 1))))
               clear q1 q2 q3 hd
               go_wp2
               go_roundw
               case rel => exact ⟨j + 1, _, by omega, by go_num, HE1, ⟨by rw [List.length_set]; exact HCL1.out⟩, HG2, HB2⟩
               case measure => simp [intOf]; omega
           ·have hd := HE.out
            rw [List.drop_eq_nil_of_le (by omega), cNames] at hd
            have h2 := HD2.out
            rw [← hd] at h2
            have HND2 := zaa.mk (show cNodes l0_0 k (l0_0.length - (i + 1)) (i + 1) c1 = some O from h2)
            clear hd h2
            go_wp2
            go_roundw
            case rel => exact ⟨i + 1, _, by omega, by go_num, HND2, HCL1, HG, HB⟩
            case measure => simp [intOf]; omega
        ·have hd := HND.out
         rw [show l0_0.length - i = 0 by omega, cNodes] at hd
         obtain rfl := Option.some.inj hd
         clear hd HND
         have HEE := zaa.mk (show (if goodR l0_0 c l0_0.length = true then zax.f k l0_0 else some false) = some r from HRES.out)
         clear HRES
         go_wp2
         go_loopw [7] (fun v7 w' => ∃ i : Nat, i ≤ l0_0.length ∧ v7 = .int .i64 i ∧ zaa (goodR l0_0 c i = true) ∧ zaa (w'.heap[w.heap.size + 1]? = some (.cells (cntA c) 47 (0, 0))) ∧ zaa (Below (zas.W1 w (some ad) l0_0.length c0_0).heap.size (zas.W1 w (some ad) l0_0.length c0_0) w')) (fun v7 _ => l0_0.length - (intOf v7).toNat)
         case atStart => exact ⟨0, Nat.zero_le _, rfl, ⟨rfl⟩, HG, HB⟩
         case round =>
          clear HG HB hct hlt hi
          obtain ⟨i, hi, rfl, HE, HG, HB⟩ := hrel
          have hct := zas.zb3 HB.out
          have hmax : l0_0.length ≤ 9223372036854775807 := by have := HC2.out; omega
          by_cases hlt : i < l0_0.length
          ·obtain ⟨na, A1, e1, A2, e2, ee, hx0, hx1, hx2, hx3, hx4, hx5, hl1, hi1, hl2, hi2⟩ := zbc HR.out (i : Int) (by omega) (by omega)
           obtain rfl := Option.some.inj ee
           replace hx0 := (HB.out.cell (World.block_lt_of_cell? _ _ hx0)).trans hx0
           replace hx1 := (HB.out.cell (World.block_lt_of_cell? _ _ hx1)).trans hx1
           replace hx2 := (HB.out.cell (World.block_lt_of_cell? _ _ hx2)).trans hx2
           replace hx3 := (HB.out.cell (World.block_lt_of_cell? _ _ hx3)).trans hx3
           replace hx4 := (HB.out.cell (World.block_lt_of_cell? _ _ hx4)).trans hx4
           replace hx5 := (HB.out.cell (World.block_lt_of_cell? _ _ hx5)).trans hx5
           rw [Int.toNat_natCast] at hx0 hx1 hx2 hx3 hx4 hx5
           have hcc := (zac (zai HG.out (.cells #[.int .i64 (zah l0_0 i).f0, .slice A1 (zah l0_0 i).f1.length e1, .slice A2 (zah l0_0 i).f2.length e2, .string (zah l0_0 i).f3, .int .i64 (zah l0_0 i).f4, .int .i64 (zah l0_0 i).f5] 40)) i).trans (cntA_cell c (i : Int) (by omega) (by have := HCL.out; have := HC2.out; omega))
           have h64 : i < 64 := by have := HC2.out; omega
           have hm2 := hi2.2.1
           clear hl1 hi1 hl2 hi2 ee
           by_cases q0 : (zah l0_0 i).f0 = 0
           ·have m0 : ((zah l0_0 i).f0 != 0) = false := by simpa using q0
            have m02 : ((zah l0_0 i).f0 == 2) = false := by rw [q0]; rfl
            have HOK : zaa (badR l0_0 c i = false) := ⟨by unfold badR; simp [m0, m02]⟩
            have HNX : zaa (goodR l0_0 c (i + 1) = true) := ⟨by rw [goodR_succ, HE.out, HOK.out]; rfl⟩
            clear q0
            go_wp2
            go_quiet (fail)
            go_wp2
            go_roundw
            case rel => exact ⟨i + 1, by omega, by go_num, HNX, ⟨zai HG.out _⟩, ⟨zab (zad HB.out _) _⟩⟩
            case measure => simp [intOf]; omega
           ·have m0 : ((zah l0_0 i).f0 != 0) = true := by simpa using q0
            by_cases q1 : (zah l0_0 i).f4 = rd c i
            ·have m1 : ((zah l0_0 i).f4 != rd c i) = false := by simpa using q1
             by_cases q2 : (zah l0_0 i).f0 = 2
             ·have m2 : ((zah l0_0 i).f0 == 2) = true := by simpa using q2
              by_cases q3 : 1 < (zah l0_0 i).f4
              ·have m3 : decide (1 < (zah l0_0 i).f4) = true := decide_eq_true q3
               have HBAD : zaa (badR l0_0 c i = true) := ⟨by unfold badR; simp [m0, m1, m2, m3]⟩
               have HGF := zaa.mk (goodR_false hlt HBAD.out)
               have HV : zaa (r = false) := ⟨by have := HEE.out; rw [HGF.out, if_neg (by simp)] at this; exact (Option.some.inj this).symm⟩
               clear q0 q1 q2 q3
               go_wp2
               go_quiet (fail)
               go_wp2
               go_ret
               exact ⟨by rw [HV.out]; rfl, zam (zas.zbd _ _ _ _) (zab (zad HB.out _) _)⟩
              ·have m3 : decide (1 < (zah l0_0 i).f4) = false := decide_eq_false q3
               by_cases q4 : (zah l0_0 i).f4 = 0
               ·have m4 : ((zah l0_0 i).f4 == 0) = true := by simpa using q4
                by_cases q5 : 0 < (zah l0_0 i).f2.length
                ·have m5 : decide (0 < (zah l0_0 i).f2.length) = true := decide_eq_true q5
                 have m5b : decide ((0 : Int) < ((zah l0_0 i).f2.length : Int)) = true := decide_eq_true (by omega)
                 have HBAD : zaa (badR l0_0 c i = true) := ⟨by unfold badR; simp [m0, m1, m2, m3, m4, m5]⟩
                 have HGF := zaa.mk (goodR_false hlt HBAD.out)
                 have HV : zaa (r = false) := ⟨by have := HEE.out; rw [HGF.out, if_neg (by simp)] at this; exact (Option.some.inj this).symm⟩
                 clear q0 q1 q2 q3 q4 q5
                 go_wp2
                 go_quiet (fail)
                 go_wp2
                 go_ret
                 exact ⟨by rw [HV.out]; rfl, zam (zas.zbd _ _ _ _) (zab (zad HB.out _) _)⟩
                ·have m5 : decide (0 < (zah l0_0 i).f2.length) = false := decide_eq_false q5
                 have m5b : decide ((0 : Int) < ((zah l0_0 i).f2.length : Int)) = false := decide_eq_false (by omega)
                 have HOK : zaa (badR l0_0 c i = false) := ⟨by unfold badR; simp [m0, m1, m2, m3, m4, m5]⟩
                 have HNX : zaa (goodR l0_0 c (i + 1) = true) := ⟨by rw [goodR_succ, HE.out, HOK.out]; rfl⟩
                 clear q0 q1 q2 q3 q4 q5
                 go_wp2
                 go_quiet (fail)
                 go_wp2
                 go_roundw
                 case rel => exact ⟨i + 1, by omega, by go_num, HNX, ⟨zai HG.out _⟩, ⟨zab (zad HB.out _) _⟩⟩
                 case measure => simp [intOf]; omega
               ·have m4 : ((zah l0_0 i).f4 == 0) = false := by simpa using q4
                have HOK : zaa (badR l0_0 c i = false) := ⟨by unfold badR; simp [m0, m1, m2, m3, m4]⟩
                have HNX : zaa (goodR l0_0 c (i + 1) = true) := ⟨by rw [goodR_succ, HE.out, HOK.out]; rfl⟩
                clear q0 q1 q2 q3 q4
                go_wp2
                go_quiet (fail)
                go_wp2
                go_roundw
                case rel => exact ⟨i + 1, by omega, by go_num, HNX, ⟨zai HG.out _⟩, ⟨zab (zad HB.out _) _⟩⟩
                case measure => simp [intOf]; omega
             ·have m2 : ((zah l0_0 i).f0 == 2) = false := by simpa using q2
              have HOK : zaa (badR l0_0 c i = false) := ⟨by unfold badR; simp [m0, m1, m2]⟩
              have HNX : zaa (goodR l0_0 c (i + 1) = true) := ⟨by rw [goodR_succ, HE.out, HOK.out]; rfl⟩
              clear q0 q1 q2
              go_wp2
              go_quiet (fail)
              go_wp2
              go_roundw
              case rel => exact ⟨i + 1, by omega, by go_num, HNX, ⟨zai HG.out _⟩, ⟨zab (zad HB.out _) _⟩⟩
              case measure => simp [intOf]; omega
            ·have m1 : ((zah l0_0 i).f4 != rd c i) = true := by simpa using q1
             have HBAD : zaa (badR l0_0 c i = true) := ⟨by unfold badR; simp [m0, m1]⟩
             have HGF := zaa.mk (goodR_false hlt HBAD.out)
             have HV : zaa (r = false) := ⟨by have := HEE.out; rw [HGF.out, if_neg (by simp)] at this; exact (Option.some.inj this).symm⟩
             clear q0 q1
             go_wp2
             go_quiet (fail)
             go_wp2
             go_ret
             exact ⟨by rw [HV.out]; rfl, zam (zas.zbd _ _ _ _) (zab (zad HB.out _) _)⟩
          ·obtain rfl : i = l0_0.length := by omega
           have h2 := HEE.out
           rw [if_pos HE.out] at h2
           have HEF := zaa.mk h2
           clear h2
           go_wp2_with (first | (go_at_call 24; refine (zax.calls k _ c0_0 l0_0 r _ (Kd.C_below HR.out HB.out) HC.out HEF.out).mono ?_; rintro e w1 ⟨rfl, hb⟩; have HB1 := zaa.mk (zam HB.out hb); clear hb))
           go_ret
           exact ⟨rfl, zam (zas.zbd _ _ _ _) HB1.out⟩
    ·have n6 : ((zah l0_0 0).f4 != 1) = true := by simpa using c6
     have HF : zaa (zbK l0_0 = false) := ⟨by unfold zbK; simp [c6]⟩
     clear c5 c6
     rw [HF.out] at h
     have HH := zaa.mk (Option.some.inj h)
     clear h
     go_enter Tryz.func14, Tryz.ntmps14
     go_wp2
     go_ret
     exact ⟨by rw [← HH.out]; rfl, zas.zbd _ _ _ _⟩
   ·have n5 : ((zah l0_0 0).f0 != 2) = true := by simpa using c5
    have HF : zaa (zbK l0_0 = false) := ⟨by unfold zbK; simp [c5]⟩
    clear c5
    rw [HF.out] at h
    have HH := zaa.mk (Option.some.inj h)
    clear h
    go_enter Tryz.func14, Tryz.ntmps14
    go_wp2
    go_ret
    exact ⟨by rw [← HH.out]; rfl, zas.zbd _ _ _ _⟩
  ·have n2 : decide ((64 : Int) < (l0_0.length : Int)) = true := decide_eq_true (by omega)
   have n2b : decide (64 < l0_0.length) = true := decide_eq_true (by omega)
   have HF : zaa (zbK l0_0 = false) := ⟨by unfold zbK; simp [c2]⟩
   clear c1 c2
   rw [HF.out] at h
   have HH := zaa.mk (Option.some.inj h)
   clear h
   go_enter Tryz.func14, Tryz.ntmps14
   go_wp2
   go_ret
   exact ⟨by rw [← HH.out]; rfl, zas.zbd _ _ _ _⟩
 ·have n1 : decide ((l0_0.length : Int) < 1) = true := decide_eq_true (by omega)
  have n1b : decide (l0_0.length < 1) = true := decide_eq_true (by omega)
  have HF : zaa (zbK l0_0 = false) := ⟨by unfold zbK; simp [c1]⟩
  clear c1
  rw [HF.out] at h
  have HH := zaa.mk (Option.some.inj h)
  clear h
  go_enter Tryz.func14, Tryz.ntmps14
  go_wp2
  go_ret
  exact ⟨by rw [← HH.out]; rfl, zas.zbd _ _ _ _⟩
def NodeQ (x : S40) : Prop :=
 (x.f0 = 1 ∧ x.f1.length ≤ 16384 ∧ x.f2 = [] ∧ x.f3 = ⟨#[]⟩) ∨ (x.f0 = 2 ∧ x.f2.length ≤ 64 ∧ (∀ i, i < x.f2.length → okR x.f2 i) ∧ x.f1 = [] ∧ x.f3 = ⟨#[]⟩) ∨
 (x.f0 = 3 ∧ x.f3 ≠ ⟨#[]⟩ ∧ x.f3.size ≤ 512 ∧ (0 : UInt8) ∉ bytesOf x.f3 ∧ x.f1 = [] ∧ x.f2 = [])
theorem nodeP_Q (x : S40) : zb6 x ↔ (x.f0 = 0 ∧ x = z40) ∨ (TimeP x.f5 ∧ NodeQ x) := by
 unfold zb6 NodeQ
 constructor
 ·rintro (h | ⟨a, b, c⟩ | ⟨a, b, c⟩ | ⟨a, b, c⟩)
  ·exact .inl h
  ·exact .inr ⟨b, .inl ⟨a, c⟩⟩
  ·exact .inr ⟨b, .inr (.inl ⟨a, c⟩)⟩
  ·exact .inr ⟨b, .inr (.inr ⟨a, c⟩)⟩
 ·rintro (h | ⟨b, ⟨a, c⟩ | ⟨a, c⟩ | ⟨a, c⟩⟩)
  ·exact .inl h
  ·exact .inr (.inl ⟨a, b, c⟩)
  ·exact .inr (.inr (.inl ⟨a, b, c⟩))
  ·exact .inr (.inr (.inr ⟨a, b, c⟩))
theorem size_pos (s : ByteArray) : (s.size : Int) ≥ 1 ↔ s ≠ ⟨#[]⟩ := by
 constructor
 ·rintro h rfl; exact absurd h (by decide)
 ·intro h
  have h1 : bytesOf s ≠ [] := fun e => h (zcv.1 (by rw [ByteArray.toList_eq]; exact e))
  have h2 := List.length_pos_iff.2 h1
  rw [bytesOf_len] at h2
  omega
def FitsX (x : S40) : Prop := FitsN x ∧ (∀ z ∈ x.f2, z.f0.size < 9223372036854775807) ∧ x.f3.size < 9223372036854775807
theorem page_j0 (x : S40) (hx : FitsX x) (b : Bool) : EvB (fun k => zaq.j0 k b x.f0 x.f1 x.f2 x.f3 x.f4 x.f5 x.f0 (⟨#[]⟩ : ByteArray) x.f4 x.f5) ((x.f0 = 0 ∧ x = z40) ∨ (b = true ∧ NodeQ x)) := by
 by_cases c0 : x.f0 = 0
 ·refine EvB.step ((EvB.same (eqNode x z40 hx.1)).iff ⟨fun h => .inl ⟨c0, h⟩, fun h => ?_⟩) (fun k => ?_)
  ·rcases h with h | ⟨_, h | h | h⟩
   ·exact h.2
   all_goals (have := h.1; omega)
  ·rw [zaq.j0, if_pos c0]; rfl
 by_cases c1 : x.f0 = 1
 ·have e : ((x.f0 = 0 ∧ x = z40) ∨ (b = true ∧ NodeQ x)) ↔ b = true ∧ x.f1.length ≤ 16384 ∧ x.f2 = [] ∧ x.f3 = ⟨#[]⟩ := by
   constructor
   ·rintro (h | ⟨h1, h | h | h⟩)
    ·exact absurd h.1 c0
    ·exact ⟨h1, h.2⟩
    all_goals (have := h.1; omega)
   ·exact fun h => .inr ⟨h.1, .inl ⟨c1, h.2⟩⟩
  rw [e]
  cases b with
  | false => exact EvB.step (EvB.no (fun h => by (cases h.1))) (fun k => by rw [zaq.j0, if_neg c0, if_pos c1, if_neg (by simp)])
  | true =>
   by_cases c2 : (x.f1.length : Int) ≤ 16384
   ·refine EvB.step ((EvB.same (eqNode x ⟨x.f0, x.f1, [], ⟨#[]⟩, x.f4, x.f5⟩ hx.1)).iff ?_) (fun k => by rw [zaq.j0, if_neg c0, if_pos c1, if_pos rfl, if_pos c2]; rfl)
    rw [node_ext]
    exact ⟨fun h => ⟨rfl, by omega, h.2.2.1, h.2.2.2.1⟩, fun h => ⟨rfl, rfl, h.2.2.1, h.2.2.2, rfl, rfl⟩⟩
   ·exact EvB.step (EvB.no (fun h => by have := h.2.1; omega)) (fun k => by rw [zaq.j0, if_neg c0, if_pos c1, if_pos rfl, if_neg c2])
 by_cases c2 : x.f0 = 2
 ·have e : ((x.f0 = 0 ∧ x = z40) ∨ (b = true ∧ NodeQ x)) ↔ b = true ∧ x.f2.length ≤ 64 ∧ (∀ i, i < x.f2.length → okR x.f2 i) ∧ x.f1 = [] ∧ x.f3 = ⟨#[]⟩ := by
   constructor
   ·rintro (h | ⟨h1, h | h | h⟩)
    ·exact absurd h.1 c0
    ·exact absurd h.1 c1
    ·exact ⟨h1, h.2⟩
    ·have := h.1; omega
   ·exact fun h => .inr ⟨h.1, .inr (.inl ⟨c2, h.2⟩)⟩
  rw [e]
  have hL := fun b' => page_names x hx.1 ⟨x.f0, [], x.f2, ⟨#[]⟩, x.f4, x.f5⟩ hx.2.1 rfl x.f2.length 0 b' (by omega)
  have hJ : ∀ b', EvB (fun k => zaq.j1 k b' x.f0 x.f1 x.f2 x.f3 x.f4 x.f5 x.f0 x.f2 (⟨#[]⟩ : ByteArray) x.f4 x.f5) (b' = true ∧ (∀ j, 0 ≤ j → j < x.f2.length → okR x.f2 j) ∧ x = ⟨x.f0, [], x.f2, ⟨#[]⟩, x.f4, x.f5⟩) := fun b' => EvB.step (hL b') (fun k => by rw [zaq.j1]; rfl)
  cases b with
  | false => exact EvB.step ((hJ false).iff ⟨fun h => by (cases h.1), fun h => by (cases h.1)⟩) (fun k => by rw [zaq.j0, if_neg c0, if_neg c1, if_pos c2, if_neg (by simp)])
  | true =>
   refine EvB.step ((hJ (decide ((x.f2.length : Int) ≤ 64))).iff ?_) (fun k => by rw [zaq.j0, if_neg c0, if_neg c1, if_pos c2, if_pos rfl])
   rw [decide_eq_true_eq, node_ext]
   exact ⟨fun h => ⟨rfl, by omega, fun i hi => h.2.1 i (Nat.zero_le _) hi, h.2.2.2.1, h.2.2.2.2.2.1⟩, fun h => ⟨by omega, fun j _ hj => h.2.2.1 j hj, rfl, h.2.2.2.1, rfl, h.2.2.2.2, rfl, rfl⟩⟩
 by_cases c3 : x.f0 = 3
 ·have e : ((x.f0 = 0 ∧ x = z40) ∨ (b = true ∧ NodeQ x)) ↔ b = true ∧ x.f3 ≠ ⟨#[]⟩ ∧ x.f3.size ≤ 512 ∧ (0 : UInt8) ∉ bytesOf x.f3 ∧ x.f1 = [] ∧ x.f2 = [] := by
   constructor
   ·rintro (h | ⟨h1, h | h | h⟩)
    ·exact absurd h.1 c0
    ·exact absurd h.1 c1
    ·exact absurd h.1 c2
    ·exact ⟨h1, h.2⟩
   ·exact fun h => .inr ⟨h.1, .inr (.inr ⟨c3, h.2⟩)⟩
  rw [e]
  cases b with
  | false => exact EvB.step (EvB.no (fun h => by (cases h.1))) (fun k => by rw [zaq.j0, if_neg c0, if_neg c1, if_neg c2, if_pos c3, if_neg (by simp)])
  | true =>
   by_cases d1 : (x.f3.size : Int) ≥ 1
   ·by_cases d2 : (x.f3.size : Int) ≤ 512
    ·by_cases d3 : (0 : UInt8) ∈ bytesOf x.f3
     ·refine ⟨false, Ev.step (fun k => by rw [zaq.j0, if_neg c0, if_neg c1, if_neg c2, if_pos c3, if_pos rfl, if_pos d1, if_pos d2]) (Ev.bind (f := fun k t => if t = true then some false else (zaL.f k x.f0 x.f1 x.f2 x.f3 x.f4 x.f5 x.f0 ([] : List Int) ([] : List S50) x.f3 x.f4 x.f5).bind fun t => some t) ((zero_ev x.f3 hx.2.2).out d3) (Ev.congr (fun k => if_pos rfl) (Ev.now false))), ?_⟩
      exact ⟨fun h => by (cases h), fun h => absurd d3 h.2.2.2.1⟩
     ·obtain ⟨r, h1, h2⟩ := EvB.same (eqNode x ⟨x.f0, [], [], x.f3, x.f4, x.f5⟩ hx.1)
      refine ⟨r, Ev.step (fun k => by rw [zaq.j0, if_neg c0, if_neg c1, if_neg c2, if_pos c3, if_pos rfl, if_pos d1, if_pos d2]) (Ev.bind (f := fun k t => if t = true then some false else (zaL.f k x.f0 x.f1 x.f2 x.f3 x.f4 x.f5 x.f0 ([] : List Int) ([] : List S50) x.f3 x.f4 x.f5).bind fun t => some t) ((zero_ev x.f3 hx.2.2).not d3) (Ev.congr (fun k => if_neg (by simp)) h1)), h2.trans ?_⟩
      rw [node_ext]
      exact ⟨fun h => ⟨rfl, (size_pos _).1 d1, by omega, d3, h.2.1, h.2.2.1⟩, fun h => ⟨rfl, h.2.2.2.2.1, h.2.2.2.2.2, rfl, rfl, rfl⟩⟩
    ·exact EvB.step (EvB.no (fun h => by have := h.2.2.1; omega)) (fun k => by rw [zaq.j0, if_neg c0, if_neg c1, if_neg c2, if_pos c3, if_pos rfl, if_pos d1, if_neg d2])
   ·exact EvB.step (EvB.no (fun h => d1 ((size_pos _).2 h.2.1))) (fun k => by rw [zaq.j0, if_neg c0, if_neg c1, if_neg c2, if_pos c3, if_pos rfl, if_neg d1])
 ·refine EvB.step (EvB.no ?_) (fun k => by rw [zaq.j0, if_neg c0, if_neg c1, if_neg c2, if_neg c3])
  rintro (h | ⟨h1, h | h | h⟩)
  ·exact c0 h.1
  ·exact c1 h.1
  ·exact c2 h.1
  ·exact c3 h.1
theorem page_node_ok (x : S40) (hx : FitsX x) : EvB (fun k => rnode k x) (zb6 x ∧ (x.f0 ≠ 0 → 0 ≤ x.f4)) := by
 obtain ⟨tb, ht, htp⟩ := page_time x.f5
 unfold rnode zaq.f
 rw [nodeP_Q]
 cases tb with
 | true =>
  have hT := htp.1 rfl
  refine ((page_j0 x hx (decide (x.f4 ≥ 0))).iff ?_).congr (fun k => by rw [ht, Option.bind_some, if_pos rfl])
  rw [decide_eq_true_eq]
  constructor
  ·rintro (h | h)
   ·exact ⟨.inl h, fun h0 => absurd h.1 h0⟩
   ·exact ⟨.inr ⟨hT, h.2⟩, fun _ => h.1⟩
  ·rintro ⟨h | h, h2⟩
   ·exact .inl h
   ·refine .inr ⟨h2 ?_, h.2⟩
    rcases h.2 with h | h | h <;> (have := h.1; omega)
 | false =>
  have hT : ¬ TimeP x.f5 := fun h => absurd (htp.2 h) (by simp)
  refine ((page_j0 x hx false).iff ?_).congr (fun k => by rw [ht, Option.bind_some, if_neg (by simp)])
  constructor
  ·rintro (h | h)
   ·exact ⟨.inl h, fun h0 => absurd h.1 h0⟩
   ·cases h.1
  ·rintro ⟨h | h, h2⟩
   ·exact .inl h
   ·exact absurd h.1 hT
def bump (c : List Int) (x : S50) : List Int := c.set x.f1.toNat (wrap64 (rd c x.f1 + 1))
theorem bump_len (c : List Int) (x : S50) : (bump c x).length = c.length := List.length_set
def bumps (l : List S40) : Nat → Nat → List Int → List Int
 | 0, _, c => c
 | d + 1, i, c => bumps l d (i + 1) ((zah l (i : Int)).f2.foldl bump c)
theorem fold_len (ns : List S50) : ∀ c : List Int, (ns.foldl bump c).length = c.length := by
 induction ns with
 | nil => intro c; rfl
 | cons x r ih => intro c; rw [List.foldl_cons, ih, bump_len]
theorem bumps_len (l : List S40) : ∀ d i c, (bumps l d i c).length = c.length
 | 0, _, _ => rfl
 | d + 1, i, c => by rw [bumps, bumps_len l d, fold_len]
theorem cNames_ok (l : List S40) : ∀ (ns : List S50) (c : List Int), (∀ x ∈ ns, zbJ l x) → cNames l ns c = some (ns.foldl bump c)
 | [], c, _ => rfl
 | x :: r, c, h => by
  have hx := h x (List.mem_cons_self ..)
  rw [cNames, if_neg (by have := hx.1; omega), if_neg (by have := hx.2.1; omega), if_neg hx.2.2]
  exact cNames_ok l r _ (fun y hy => h y (List.mem_cons_of_mem _ hy))
theorem cNames_no (l : List S40) : ∀ (ns : List S50) (c : List Int), ¬ (∀ x ∈ ns, zbJ l x) → cNames l ns c = none
 | [], c, h => absurd (by simp) h
 | x :: r, c, h => by
  rw [cNames]
  by_cases h1 : x.f1 < 1
  ·rw [if_pos h1]
  rw [if_neg h1]
  by_cases h2 : (l.length : Int) ≤ x.f1
  ·rw [if_pos h2]
  rw [if_neg h2]
  by_cases h3 : (zah l x.f1).f0 = 0
  ·rw [if_pos h3]
  rw [if_neg h3]
  refine cNames_no l r _ (fun hr => h fun y hy => ?_)
  rcases List.mem_cons.1 hy with rfl | hy
  ·exact ⟨by omega, by omega, h3⟩
  ·exact hr y hy
def AllR (l : List S40) (i : Nat) : Prop := ∀ j, i ≤ j → j < l.length → (zb6 (zah l (j : Int)) ∧ ((zah l (j : Int)).f0 ≠ 0 → 0 ≤ (zah l (j : Int)).f4)) ∧ ∀ x ∈ (zah l (j : Int)).f2, zbJ l x
def Fits (l : List S40) : Prop := ∀ x ∈ l, FitsX x
theorem fits_at {l : List S40} (h : Fits l) (i : Nat) (hi : i < l.length) : FitsX (zah l (i : Int)) := by rw [zcd l i hi]; exact h _ (List.getElem_mem _)
theorem cNodes_ok (l : List S40) (hf : Fits l) : ∀ (d i : Nat) (c : List Int), i + d = l.length → AllR l i → Ev (fun k => cNodes l k d i c) (some (bumps l d i c))
 | 0, i, c, _, _ => Ev.now _
 | d + 1, i, c, h, hA => by
  have hi := hA i (Nat.le_refl _) (by omega)
  refine Ev.bind (f := fun k b => if b = true then (match cNames l (zah l (i : Int)).f2 c with | none => some none | some c' => cNodes l k d (i + 1) c') else some none) ((page_node_ok _ (fits_at hf i (by omega))).out hi.1) (Ev.congr (fun k => if_pos rfl) ?_)
  rw [cNames_ok l _ c hi.2]
  exact cNodes_ok l hf d (i + 1) _ (by omega) (fun j h1 h2 => hA j (by omega) h2)
theorem cNodes_no (l : List S40) (hf : Fits l) : ∀ (d i : Nat) (c : List Int), i + d = l.length → ¬ AllR l i → Ev (fun k => cNodes l k d i c) none
 | 0, i, c, h, hA => absurd (fun j h1 h2 => by omega) hA
 | d + 1, i, c, h, hA => by
  by_cases h1 : zb6 (zah l (i : Int)) ∧ ((zah l (i : Int)).f0 ≠ 0 → 0 ≤ (zah l (i : Int)).f4)
  ·refine Ev.bind (f := fun k b => if b = true then (match cNames l (zah l (i : Int)).f2 c with | none => some none | some c' => cNodes l k d (i + 1) c') else some none) ((page_node_ok _ (fits_at hf i (by omega))).out h1) (Ev.congr (fun k => if_pos rfl) ?_)
   by_cases h2 : ∀ x ∈ (zah l (i : Int)).f2, zbJ l x
   ·rw [cNames_ok l _ c h2]
    refine cNodes_no l hf d (i + 1) _ (by omega) (fun hr => hA fun j h3 h4 => ?_)
    by_cases e : j = i
    ·subst e; exact ⟨h1, h2⟩
    ·exact hr j (by omega) h4
   ·rw [cNames_no l _ c h2]; exact Ev.now _
  ·exact Ev.bind (f := fun k b => if b = true then (match cNames l (zah l (i : Int)).f2 c with | none => some none | some c' => cNodes l k d (i + 1) c') else some none) ((page_node_ok _ (fits_at hf i (by omega))).not h1) (Ev.congr (fun k => if_neg (by simp)) (Ev.now _))
theorem links_l1 (l : List S40) (i : Nat) (hi : (i : Int) + 1 < 9223372036854775807) (ns : List S50) (hns : ns.length < 9223372036854775807) (F : List Int → List Int) (hF : ∀ c : List Int, c.length = l.length → Ev (fun k => zaR.l0 k c l (l.length : Int) ((i + 1 : Nat) : Int)) (F c)) :
  ∀ (d j : Nat) (c : List Int), j + d = ns.length → c.length = l.length → (∀ x ∈ ns, 0 ≤ x.f1 ∧ x.f1 < (l.length : Int)) → Ev (fun k => zaR.l1 k c l (l.length : Int) (i : Int) ns (ns.length : Int) (j : Int)) (F ((ns.drop j).foldl bump c))
 | 0, j, c, h, hc, _ => by
  rw [List.drop_eq_nil_of_le (by omega)]
  refine Ev.step (fun k => ?_) (hF c hc)
  rw [zaR.l1, if_neg (by omega), up64 (by omega)]
 | d + 1, j, c, h, hc, hr => by
  have hj : j < ns.length := by omega
  have hx := hr ns[j] (List.getElem_mem _)
  have ih := links_l1 l i hi ns hns F hF d (j + 1) (bump c ns[j]) (by omega) (by rw [bump_len]; exact hc) hr
  rw [List.drop_eq_getElem_cons hj, List.foldl_cons]
  refine Ev.step (fun k => ?_) ih
  rw [zaR.l1, if_pos (by omega), if_pos (by omega), if_pos (by omega), zbY ns j hj, if_pos hx.1, if_pos (by omega), up64 (by omega)]
  rfl
theorem links_l0 (l : List S40) (hl : l.length ≤ 64) (hf : Fits l) (hr : InRange l) : ∀ (d i : Nat) (c : List Int), i + d = l.length → c.length = l.length → Ev (fun k => zaR.l0 k c l (l.length : Int) (i : Int)) (bumps l d i c)
 | 0, i, c, h, hc => Ev.step (f := fun _ => some c) (fun k => by rw [zaR.l0, if_neg (by omega)]) (Ev.now _)
 | d + 1, i, c, h, hc => by
  have h1 := links_l1 l i (by omega) (zah l (i : Int)).f2 (by have := (fits_at hf i (by omega)).1.2; omega) (bumps l d (i + 1)) (fun c' hc' => links_l0 l hl hf hr d (i + 1) c' (by omega) hc') (zah l (i : Int)).f2.length 0 c (by omega) hc (hr i (by omega))
  refine Ev.step (fun k => ?_) h1
  rw [zaR.l0, if_pos (by omega), if_pos (by omega), if_pos (by omega)]; rfl
theorem links_ev (l : List S40) (hl : l.length ≤ 64) (hf : Fits l) (hr : InRange l) : Ev (fun k => zaR.f k l) (bumps l l.length 0 (List.replicate l.length 0)) := by
 refine Ev.congr (fun k => ?_) (links_l0 l hl hf hr l.length 0 (List.replicate l.length 0) (by omega) (by simp))
 unfold zaR.f
 rw [if_pos (by omega), if_pos (by omega), Int.toNat_natCast]; rfl
theorem rd_set (c : List Int) (m i : Nat) (v : Int) (h : m < c.length) : rd (c.set m v) (i : Int) = if m = i then v else rd c (i : Int) := by
 unfold rd
 rw [Int.toNat_natCast, List.getD_eq_getElem?_getD, List.getD_eq_getElem?_getD, List.getElem?_set]
 by_cases e : m = i
 ·subst e; simp [h]
 ·simp [e]
structure Cnt (l : List S40) (L c : List Int) (t : Int) : Prop where
 lenL : L.length = l.length
 lenC : c.length = 64
 same : ∀ i : Nat, 1 ≤ i → i < l.length → rd c (i : Int) = rd L (i : Int)
 one : rd c ((0 : Nat) : Int) = 1
 low : ∀ i : Nat, i < l.length → 0 ≤ rd L (i : Int) ∧ rd L (i : Int) ≤ t
 free : ∀ i : Nat, i < l.length → (zah l (i : Int)).f0 = 0 → rd L (i : Int) = 0
theorem Cnt.bump_ {l : List S40} {L c : List Int} {t : Int} (hl : l.length ≤ 64) (h : Cnt l L c t) (ht : t < 1000000000) {x : S50} (hx : zbJ l x) : Cnt l (bump L x) (bump c x) (t + 1) := by
 obtain ⟨x1, x2, x3⟩ := hx
 obtain ⟨m, hm⟩ : ∃ m : Nat, x.f1 = (m : Int) := ⟨x.f1.toNat, by omega⟩
 have hL : ∀ i : Nat, rd (bump L x) (i : Int) = if m = i then rd L (m : Int) + 1 else rd L (i : Int) := fun i => by
  unfold bump
  rw [hm, Int.toNat_natCast, rd_set _ _ _ _ (by rw [h.lenL]; omega)]
  have := h.low m (by omega)
  by_cases e : m = i
  ·rw [if_pos e, if_pos e]; unfold wrap64; omega
  ·rw [if_neg e, if_neg e]
 have hC : ∀ i : Nat, rd (bump c x) (i : Int) = if m = i then rd L (m : Int) + 1 else rd c (i : Int) := fun i => by
  unfold bump
  rw [hm, Int.toNat_natCast, rd_set _ _ _ _ (by rw [h.lenC]; omega)]
  have := h.low m (by omega)
  by_cases e : m = i
  ·rw [if_pos e, if_pos e, h.same m (by omega) (by omega)]; unfold wrap64; omega
  ·rw [if_neg e, if_neg e]
 refine ⟨by rw [bump_len]; exact h.lenL, by rw [bump_len]; exact h.lenC, fun i h1 h2 => ?_, ?_, fun i h1 => ?_, fun i h1 h2 => ?_⟩
 ·rw [hL, hC, h.same i h1 h2]
 ·rw [hC, if_neg (by omega)]; exact h.one
 ·rw [hL]
  have h2 := h.low i h1
  by_cases e : m = i
  ·subst e; rw [if_pos rfl]; omega
  ·rw [if_neg e]; omega
 ·rw [hL]
  by_cases e : m = i
  ·subst e; rw [hm] at x3; exact absurd h2 x3
  ·rw [if_neg e]; exact h.free i h1 h2
theorem Cnt.fold {l : List S40} (hl : l.length ≤ 64) : ∀ (ns : List S50) {L c : List Int} {t : Int}, Cnt l L c t → t + ns.length < 1000000000 → (∀ x ∈ ns, zbJ l x) → Cnt l (ns.foldl bump L) (ns.foldl bump c) (t + ns.length)
 | [], L, c, t, h, _, _ => by simpa using h
 | x :: r, L, c, t, h, ht, hx => by
  have h1 := h.bump_ hl (by simp at ht; omega) (hx x (List.mem_cons_self ..))
  have h2 := Cnt.fold hl r h1 (by simp at ht; omega) (fun y hy => hx y (List.mem_cons_of_mem _ hy))
  rw [List.foldl_cons, List.foldl_cons]
  rw [show t + ((x :: r).length : Int) = t + 1 + (r.length : Int) by simp; omega]
  exact h2
theorem Cnt.weak {l : List S40} {L c : List Int} {t t' : Int} (h : Cnt l L c t) (ht : t ≤ t') : Cnt l L c t' := ⟨h.lenL, h.lenC, h.same, h.one, fun i hi => ⟨(h.low i hi).1, Int.le_trans (h.low i hi).2 ht⟩, h.free⟩
theorem Cnt.all {l : List S40} (hl : l.length ≤ 64) (hn : ∀ j, j < l.length → (zah l (j : Int)).f2.length ≤ 64 ∧ ∀ x ∈ (zah l (j : Int)).f2, zbJ l x) : ∀ (d i : Nat) {L c : List Int}, i + d = l.length → Cnt l L c (64 * i) → Cnt l (bumps l d i L) (bumps l d i c) (64 * l.length)
 | 0, i, L, c, h, hc => by rw [show (64 : Int) * l.length = 64 * i by omega]; exact hc
 | d + 1, i, L, c, h, hc => by
  have hi := hn i (by omega)
  have h1 := Cnt.fold hl (zah l (i : Int)).f2 hc (by omega) hi.2
  exact Cnt.all hl hn d (i + 1) (by omega) (h1.weak (by omega))
theorem Cnt.start {l : List S40} (hl : l.length ≤ 64) (h0 : (zah l 0).f0 = 2) : Cnt l (List.replicate l.length 0) ((List.replicate 64 0).set 0 1) 0 := by
 have hz : ∀ (n i : Nat), rd (List.replicate n 0) (i : Int) = 0 := fun n i => by
  unfold rd; rw [Int.toNat_natCast, List.getD_eq_getElem?_getD, List.getElem?_replicate]; split <;> rfl
 have hs : ∀ i : Nat, rd ((List.replicate 64 (0 : Int)).set 0 1) (i : Int) = if 0 = i then 1 else 0 := fun i => by rw [rd_set _ _ _ _ (by simp), hz]
 refine ⟨by simp, by simp, fun i h1 h2 => ?_, ?_, fun i _ => ?_, fun i _ _ => hz _ _⟩
 ·rw [hs, hz, if_neg (by omega)]
 ·rw [hs, if_pos rfl]
 ·rw [hz]; omega
theorem head_parts {l : List S40} (h : zbK l = true) : 0 < l.length ∧ l.length ≤ 64 ∧ (zah l 0).f0 = 2 ∧ (zah l 0).f4 = 1 := by
 unfold zbK at h
 simp only [Bool.and_eq_true, decide_eq_true_eq, beq_iff_eq] at h
 exact ⟨h.1.1.1.1, h.1.1.1.2, h.1.2, h.2⟩
theorem may_both (l : List S40) (hf : Fits l) : ∃ m : Bool, Ev (fun k => zaH.f k l) m ∧ Ev (fun k => zas.f k l) m := by
 by_cases hh' : ¬ zbK l = true
 ·exact ⟨false, Ev.congr (fun k => by unfold zaH.f; rw [if_neg hh']) (Ev.now false), Ev.congr (fun k => by unfold zas.f; rw [if_neg hh']) (Ev.now false)⟩
 have hh := Decidable.not_not.1 hh'
 obtain ⟨h0, hl, hk0, hl0⟩ := head_parts hh
 have hT : nodesB l l.length = true ↔ ∀ j, j < l.length → zb6 (zah l (j : Int)) ∧ ∀ x ∈ (zah l (j : Int)).f2, zbJ l x := by
  unfold nodesB
  rw [List.all_eq_true]
  constructor
  ·intro h j hj
   have h1 := (tree_node_ok l _ (fits_at hf j hj).1).1 (h j (List.mem_range.2 hj))
   refine ⟨h1.1, ?_⟩
   by_cases hk : (zah l (j : Int)).f0 = 2
   ·exact names_mem.2 (h1.2.2 hk)
   ·have : (zah l (j : Int)).f2 = [] := by
     rcases h1.1 with h | h | h | h
     ·rw [h.2]; rfl
     ·exact h.2.2.2.1
     ·exact absurd h.1 hk
     ·exact h.2.2.2.2.2.2
    rw [this]; simp
  ·intro h j hj
   have hj := List.mem_range.1 hj
   exact (tree_node_ok l _ (fits_at hf j hj).1).2 ⟨(h j hj).1, fun _ => trivial, fun _ => names_mem.1 (h j hj).2⟩
 by_cases hA' : ¬ (∀ j, j < l.length → zb6 (zah l (j : Int)) ∧ ∀ x ∈ (zah l (j : Int)).f2, zbJ l x)
 ·have hN : ¬ AllR l 0 := fun h => hA' fun j hj => ⟨(h j (Nat.zero_le _) hj).1.1, (h j (Nat.zero_le _) hj).2⟩
  refine ⟨false, Ev.congr (fun k => by unfold zaH.f; rw [if_pos hh, if_neg (fun h => hA' (hT.1 h))]) (Ev.now false), Ev.congr (fun k => by unfold zas.f; rw [if_pos hh]) (Ev.bind (f := fun k o => mayE l k o) (cNodes_no l hf l.length 0 _ (by omega) hN) (Ev.now false))⟩
 have hA := Classical.not_not.1 hA'
 have hr : InRange l := fun n hn x hx => by have := (hA n hn).2 x hx; exact ⟨by have := this.1; omega, this.2.1⟩
 have hn : ∀ j, j < l.length → (zah l (j : Int)).f2.length ≤ 64 ∧ ∀ x ∈ (zah l (j : Int)).f2, zbJ l x := fun j hj => ⟨by
  rcases (hA j hj).1 with h | h | h | h
  ·rw [h.2]; exact Nat.zero_le _
  ·rw [h.2.2.2.1]; exact Nat.zero_le _
  ·exact h.2.2.1
  ·rw [h.2.2.2.2.2.2]; exact Nat.zero_le _, (hA j hj).2⟩
 obtain ⟨R, hR, hRl, hRs⟩ := reached_tree l h0 hl hk0 hr
 have hRe : Ev (fun k => zaz.f k l) R := Ev.of (fun k => zaz.mono _ _) hR
 have hLe := links_ev l hl hf hr
 have hC := Cnt.all hl hn l.length 0 (by omega) (show Cnt l (List.replicate l.length 0) ((List.replicate 64 0).set 0 1) (64 * ((0 : Nat) : Int)) from Cnt.start hl hk0)
 obtain ⟨L, hLd⟩ : ∃ L, L = bumps l l.length 0 (List.replicate l.length 0) := ⟨_, rfl⟩
 obtain ⟨c, hcd⟩ : ∃ c, c = bumps l l.length 0 ((List.replicate 64 0).set 0 1) := ⟨_, rfl⟩
 rw [← hLd] at hLe hC
 rw [← hcd] at hC
 have hTree : Ev (fun k => zaH.f k l) (lastB l L R l.length) :=
  Ev.congr (fun k => by unfold zaH.f; rw [if_pos hh, if_pos (hT.2 hA)]) (Ev.bind (f := fun k L => (zaz.f k l).bind fun R => if L.length = l.length ∧ R.length = l.length then some (lastB l L R l.length) else none) hLe (Ev.bind (f := fun _ R => if L.length = l.length ∧ R.length = l.length then some (lastB l L R l.length) else none) hRe (Ev.congr (fun _ => if_pos ⟨hC.lenL, hRl⟩) (Ev.now _))))
 refine ⟨_, hTree, ?_⟩
 by_cases hB : AllR l 0
 ·have hcn := cNodes_ok l hf l.length 0 ((List.replicate 64 0).set 0 1) (by omega) hB
  rw [← hcd] at hcn
  obtain ⟨S, hS, hSs⟩ := reached_page l hl hr
  have hRp : Ev (fun k => zax.f k l) (allSeen l S l.length) := Ev.of (fun k => zax.mono _ _) (k := 66) (by unfold zax.f; rw [if_pos hl, hS]; rfl)
  have key : ∀ j, j < l.length → (zbg l L R j = false ↔ badR l c j = false ∧ zcl l S j = false) := by
   intro j hj
   have hRj : rdOf false R (j : Int) = true ↔ rdOf false S (j : Int) = true := (hRs j).trans (hSs j).symm
   have hRb : rdOf false R (j : Int) = rdOf false S (j : Int) := Bool.eq_iff_iff.2 hRj
   by_cases e : j = 0
   ·subst e
    have hs0 : rdOf false S ((0 : Nat) : Int) = true := (hSs 0).2 .root
    have hk0' : (zah l ((0 : Nat) : Int)).f0 = 2 := hk0
    have hl0' : (zah l ((0 : Nat) : Int)).f4 = 1 := hl0
    have e1 : zbg l L R 0 = false := by unfold zbg; rfl
    have e2 : badR l c 0 = false := by unfold badR; rw [hk0', hl0', hC.one]; rfl
    have e3 : zcl l S 0 = false := by unfold zcl; rw [hk0', hl0', hs0]; rfl
    exact ⟨fun _ => ⟨e2, e3⟩, fun _ => e1⟩
   ·have hs := hC.same j (by omega) hj
    have hlo := hC.low j hj
    have hfr := hC.free j hj
    have hNP := (hA j hj).1
    have hL' : rdOf 0 L (j : Int) = rd L (j : Int) := rfl
    unfold zbg badR zcl
    rw [decide_eq_true (show 0 < j by omega), hL', hRb, hs, Bool.true_and]
    have hz : (zah l (j : Int)).f0 = 0 → (zah l (j : Int)).f4 = 0 := fun h => by
     rcases hNP with h1 | h1 | h1 | h1
     ·rw [h1.2]; rfl
     all_goals (have := h1.1; omega)
    cases rdOf false S (j : Int) <;> by_cases q0 : (zah l (j : Int)).f0 = 0 <;> by_cases q2 : (zah l (j : Int)).f0 = 2 <;> by_cases q4 : (zah l (j : Int)).f4 = rd L (j : Int) <;> by_cases q5 : (zah l (j : Int)).f4 = 1 <;> simp_all
  refine Ev.congr (fun k => by unfold zas.f; rw [if_pos hh]) (Ev.bind (f := fun k o => mayE l k o) hcn ?_)
  by_cases hg : goodR l c l.length = true
  ·refine Ev.congr (fun k => show (if goodR l c l.length = true then zax.f k l else some false) = _ from if_pos hg) ?_
   have e : lastB l L R l.length = allSeen l S l.length := by
    rw [Bool.eq_iff_iff]
    unfold lastB allSeen
    unfold goodR at hg
    simp only [List.all_eq_true, List.mem_range, Bool.not_eq_true'] at hg ⊢
    exact ⟨fun h j hj => ((key j hj).1 (h j hj)).2, fun h j hj => (key j hj).2 ⟨hg j hj, h j hj⟩⟩
   rw [e]; exact hRp
  ·refine Ev.congr (fun k => show (if goodR l c l.length = true then zax.f k l else some false) = _ from if_neg hg) ?_
   have e : lastB l L R l.length = false := by
    rw [Bool.eq_false_iff]
    intro h
    apply hg
    unfold lastB at h
    unfold goodR
    simp only [List.all_eq_true, List.mem_range, Bool.not_eq_true'] at h ⊢
    exact fun j hj => ((key j hj).1 (h j hj)).1
   rw [e]; exact Ev.now _
 ·refine Ev.congr (fun k => by unfold zas.f; rw [if_pos hh]) (Ev.bind (f := fun k o => mayE l k o) (cNodes_no l hf l.length 0 _ (by omega) hB) ?_)
  have e : lastB l L R l.length = false := by
   rw [Bool.eq_false_iff]
   intro h
   apply hB
   intro j _ hj
   refine ⟨⟨(hA j hj).1, fun hk => ?_⟩, (hA j hj).2⟩
   unfold lastB at h
   simp only [List.all_eq_true, List.mem_range, Bool.not_eq_true'] at h
   have hb := h j hj
   by_cases e : j = 0
   ·subst e; rw [show (zah l ((0 : Nat) : Int)).f4 = 1 from hl0]; omega
   ·unfold zbg at hb
    rw [decide_eq_true (show 0 < j by omega), Bool.true_and, Bool.or_eq_false_iff, bne_eq_false_iff_eq] at hb
    rw [hb.1]; exact (hC.low j hj).1
  rw [e]; exact Ev.now _
def zaJ.l0 : Nat → Int → Int → List (S40) → Option (Bool)
 | 0, _, _, _ => none
 | k + 1, x3, x4, x102000 => if x4 < (x102000.length : Int) then (if 0 ≤ x4 then (zaJ.l0 k (wrap64 ((wrap64 ((wrap64 (x3 + (wrap64 (30 * (((zah x102000 x4).f2).length : Int))))) + (((zah x102000 x4).f1).length : Int))) + (((zah x102000 x4).f3).size : Int))) (wrap64 (x4 + 1)) x102000) else (none)) else (some (decide (x3 > 60000)))
def zaJ.f (k : Nat) (l0_0 : List (S40)) : Option (Bool) := if (l0_0.length : Int) > 100 then (some true) else (zaJ.l0 k 0 0 l0_0)
set_option maxHeartbeats 8000000 in
set_option maxRecDepth 100000 in
theorem zaJ.calls (k : Nat) (A0_0 : Option Addr) (c0_0 : Nat) (l0_0 : List (S40)) (r : Bool) (w : World) (hr0_0 : Kd.C k40 w A0_0 l0_0.length l0_0) (hc0_0 : l0_0.length ≤ c0_0) (h : zaJ.f k l0_0 = some r) :
  Calls Tryz.prog 21 #[.agg #[.slice A0_0 l0_0.length c0_0]] w fun e w' => e = .returned (.bool r) ∧ Below w.heap.size w w' := by
 have hu24 := Tryz.underlying24
 have HR0_0 := zaa.mk hr0_0
 have HC0_0 := zaa.mk hc0_0
 clear hr0_0 hc0_0
 have HB := zaa.mk (Below.refl w.heap.size w)
 have H : (if (l0_0.length : Int) > 100 then (some true) else (zaJ.l0 k 0 0 l0_0)) = some r := h
 clear h
 by_cases c2 : (l0_0.length : Int) > 100
 ·rw [if_pos c2] at H
  have c2b0 : decide (100 < (l0_0.length : Int)) = true := decide_eq_true c2
  have c2b1 : decide (100 < l0_0.length) = true := decide_eq_true (by omega)
  clear c2
  obtain rfl := Option.some.inj H
  go_enter Tryz.func21, Tryz.ntmps21
  go_wp2_with (first | ((with_reducible refine zaS (N := 1) rfl ?_); refine zaG ?hg (N := 1) ?hd (cs := #[.slice A0_0 l0_0.length c0_0]) (t := 24) ?hr ?_; (case hd => rfl); (case hg => rfl); (case hr => first | (go_simp; done) | (go_simp; rfl)); intro gb101 hg w3 hbox hb; have n0_ := zaa.mk (zam (by repeat (first | (with_reducible first | exact HB.out | apply zad | apply zab | apply zae) | exact HB.out)) hb); have n1_ := zaa.mk (hbox); have n2_ := zaa.mk ((by rw [hg]; exact (zar (by repeat (first | (with_reducible first | exact HB.out | apply zad | apply zab | apply zae) | exact HB.out))) : w.heap.size ≤ gb101)); have n3_ := zaa.mk ((by rw [hg]; exact (zar (by repeat (first | (with_reducible first | exact HB.out | apply zad | apply zab | apply zae) | exact HB.out))) : w.heap.size ≤ gb101)); clear HB; have HB := n0_; have BK101 := n1_; have GW101 := n2_; have GE101 := n3_; clear n0_ n1_ n2_ n3_; clear hb hbox hg; have hcz4_0 : w3.cell? ⟨gb101, 0, none⟩ = some (.slice A0_0 l0_0.length c0_0) := (zac BK101.out 0).trans rfl; have hfz4_0 := zaf BK101.out 0))
  repeat (go_quiet (first | ((with_reducible refine zaS (N := 1) rfl ?_); refine zaG ?hg (N := 1) ?hd (cs := #[.slice A0_0 l0_0.length c0_0]) (t := 24) ?hr ?_; (case hd => rfl); (case hg => rfl); (case hr => first | (go_simp; done) | (go_simp; rfl)); intro gb101 hg w3 hbox hb; have n0_ := zaa.mk (zam (by repeat (first | (with_reducible first | exact HB.out | apply zad | apply zab | apply zae) | exact HB.out)) hb); have n1_ := zaa.mk (hbox); have n2_ := zaa.mk ((by rw [hg]; exact (zar (by repeat (first | (with_reducible first | exact HB.out | apply zad | apply zab | apply zae) | exact HB.out))) : w.heap.size ≤ gb101)); have n3_ := zaa.mk ((by rw [hg]; exact (zar (by repeat (first | (with_reducible first | exact HB.out | apply zad | apply zab | apply zae) | exact HB.out))) : w.heap.size ≤ gb101)); clear HB; have HB := n0_; have BK101 := n1_; have GW101 := n2_; have GE101 := n3_; clear n0_ n1_ n2_ n3_; clear hb hbox hg; have hcz4_0 : w3.cell? ⟨gb101, 0, none⟩ = some (.slice A0_0 l0_0.length c0_0) := (zac BK101.out 0).trans rfl; have hfz4_0 := zaf BK101.out 0)); try go_wp2_with (first | ((with_reducible refine zaS (N := 1) rfl ?_); refine zaG ?hg (N := 1) ?hd (cs := #[.slice A0_0 l0_0.length c0_0]) (t := 24) ?hr ?_; (case hd => rfl); (case hg => rfl); (case hr => first | (go_simp; done) | (go_simp; rfl)); intro gb101 hg w3 hbox hb; have n0_ := zaa.mk (zam (by repeat (first | (with_reducible first | exact HB.out | apply zad | apply zab | apply zae) | exact HB.out)) hb); have n1_ := zaa.mk (hbox); have n2_ := zaa.mk ((by rw [hg]; exact (zar (by repeat (first | (with_reducible first | exact HB.out | apply zad | apply zab | apply zae) | exact HB.out))) : w.heap.size ≤ gb101)); have n3_ := zaa.mk ((by rw [hg]; exact (zar (by repeat (first | (with_reducible first | exact HB.out | apply zad | apply zab | apply zae) | exact HB.out))) : w.heap.size ≤ gb101)); clear HB; have HB := n0_; have BK101 := n1_; have GW101 := n2_; have GE101 := n3_; clear n0_ n1_ n2_ n3_; clear hb hbox hg; have hcz4_0 : w3.cell? ⟨gb101, 0, none⟩ = some (.slice A0_0 l0_0.length c0_0) := (zac BK101.out 0).trans rfl; have hfz4_0 := zaf BK101.out 0)))
  go_ret
  exact ⟨by first | rfl | (simp [zaw, zav] <;> rfl) | (simp [*, zaw, zav] <;> rfl), by repeat (first | (with_reducible first | exact HB.out | apply zad | apply zab | apply zae | refine zal ?_ GE101.out) | exact HB.out)⟩
 ·rw [if_neg c2] at H
  have c2b0 : decide (100 < (l0_0.length : Int)) = false := decide_eq_false c2
  have c2b1 : decide (100 < l0_0.length) = false := decide_eq_false (by omega)
  clear c2
  have H' := zaa.mk H
  clear H
  go_enter Tryz.func21, Tryz.ntmps21
  go_wp2_with (first | ((with_reducible refine zaS (N := 1) rfl ?_); refine zaG ?hg (N := 1) ?hd (cs := #[.slice A0_0 l0_0.length c0_0]) (t := 24) ?hr ?_; (case hd => rfl); (case hg => rfl); (case hr => first | (go_simp; done) | (go_simp; rfl)); intro gb101 hg w5 hbox hb; have n0_ := zaa.mk (zam (by repeat (first | (with_reducible first | exact HB.out | apply zad | apply zab | apply zae) | exact HB.out)) hb); have n1_ := zaa.mk (hbox); have n2_ := zaa.mk ((by rw [hg]; exact (zar (by repeat (first | (with_reducible first | exact HB.out | apply zad | apply zab | apply zae) | exact HB.out))) : w.heap.size ≤ gb101)); have n3_ := zaa.mk ((by rw [hg]; exact (zar (by repeat (first | (with_reducible first | exact HB.out | apply zad | apply zab | apply zae) | exact HB.out))) : w.heap.size ≤ gb101)); clear HB; have HB := n0_; have BK101 := n1_; have GW101 := n2_; have GE101 := n3_; clear n0_ n1_ n2_ n3_; clear hb hbox hg; have hcz6_0 : w5.cell? ⟨gb101, 0, none⟩ = some (.slice A0_0 l0_0.length c0_0) := (zac BK101.out 0).trans rfl; have hfz6_0 := zaf BK101.out 0))
  repeat (go_quiet (first | ((with_reducible refine zaS (N := 1) rfl ?_); refine zaG ?hg (N := 1) ?hd (cs := #[.slice A0_0 l0_0.length c0_0]) (t := 24) ?hr ?_; (case hd => rfl); (case hg => rfl); (case hr => first | (go_simp; done) | (go_simp; rfl)); intro gb101 hg w5 hbox hb; have n0_ := zaa.mk (zam (by repeat (first | (with_reducible first | exact HB.out | apply zad | apply zab | apply zae) | exact HB.out)) hb); have n1_ := zaa.mk (hbox); have n2_ := zaa.mk ((by rw [hg]; exact (zar (by repeat (first | (with_reducible first | exact HB.out | apply zad | apply zab | apply zae) | exact HB.out))) : w.heap.size ≤ gb101)); have n3_ := zaa.mk ((by rw [hg]; exact (zar (by repeat (first | (with_reducible first | exact HB.out | apply zad | apply zab | apply zae) | exact HB.out))) : w.heap.size ≤ gb101)); clear HB; have HB := n0_; have BK101 := n1_; have GW101 := n2_; have GE101 := n3_; clear n0_ n1_ n2_ n3_; clear hb hbox hg; have hcz6_0 : w5.cell? ⟨gb101, 0, none⟩ = some (.slice A0_0 l0_0.length c0_0) := (zac BK101.out 0).trans rfl; have hfz6_0 := zaf BK101.out 0)); try go_wp2_with (first | ((with_reducible refine zaS (N := 1) rfl ?_); refine zaG ?hg (N := 1) ?hd (cs := #[.slice A0_0 l0_0.length c0_0]) (t := 24) ?hr ?_; (case hd => rfl); (case hg => rfl); (case hr => first | (go_simp; done) | (go_simp; rfl)); intro gb101 hg w5 hbox hb; have n0_ := zaa.mk (zam (by repeat (first | (with_reducible first | exact HB.out | apply zad | apply zab | apply zae) | exact HB.out)) hb); have n1_ := zaa.mk (hbox); have n2_ := zaa.mk ((by rw [hg]; exact (zar (by repeat (first | (with_reducible first | exact HB.out | apply zad | apply zab | apply zae) | exact HB.out))) : w.heap.size ≤ gb101)); have n3_ := zaa.mk ((by rw [hg]; exact (zar (by repeat (first | (with_reducible first | exact HB.out | apply zad | apply zab | apply zae) | exact HB.out))) : w.heap.size ≤ gb101)); clear HB; have HB := n0_; have BK101 := n1_; have GW101 := n2_; have GE101 := n3_; clear n0_ n1_ n2_ n3_; clear hb hbox hg; have hcz6_0 : w5.cell? ⟨gb101, 0, none⟩ = some (.slice A0_0 l0_0.length c0_0) := (zac BK101.out 0).trans rfl; have hfz6_0 := zaf BK101.out 0)))
  go_loopg [3, 4] k (fun kq v3 v4 w' => ∃ (x3_1 : Int) (x4_1 : Int), v3 = .int .i64 x3_1 ∧ v4 = .int .i64 x4_1 ∧ zaa (zaJ.l0 kq x3_1 x4_1 l0_0 = some r) ∧ zaa (kq ≤ k) ∧ zaa (w'.heap[gb101]? = some (.cells #[(.slice A0_0 l0_0.length c0_0)] 24 (0, 0))) ∧ zaa (Below w.heap.size w w'))
  case atStart => exact ⟨(0), (0), (by first | rfl | (simp; done) | (simp [*]; done)), (by first | rfl | (simp; done) | (simp [*]; done)), H', ⟨Nat.le_refl _⟩, ⟨by (with_reducible repeat (first | refine zaj ?_ _ | refine zak ?_ | refine zai ?_ _)); exact BK101.out⟩, ⟨by repeat (first | (with_reducible first | exact HB.out | apply zad | apply zab | apply zae | refine zal ?_ GE101.out) | exact HB.out)⟩⟩
  case round =>
   clear H'
   try clear c2
   try clear c2b0
   try clear c2b1
   try clear hcz6_0
   try clear hfz6_0
   obtain ⟨x3_1, x4_1, rfl, rfl, HA, HK1, BK101, HB⟩ := hrel
   cases gk with
   | zero => exact absurd HA.out (by simp [zaJ.l0])
   | succ k1 =>
    have H := HA.out
    clear HA
    simp only [zaJ.l0] at H
    by_cases c7 : x4_1 < (l0_0.length : Int)
    ·rw [if_pos c7] at H
     have c7b0 : decide (x4_1 < (l0_0.length : Int)) = true := decide_eq_true c7
     clear c7
     by_cases c8 : 0 ≤ x4_1
     ·rw [if_pos c8] at H
      have c8b0 : decide (0 ≤ x4_1) = true := decide_eq_true c8
      clear c8
      have H' := zaa.mk H
      clear H
      have hcz9_0 := (zac BK101.out 0).trans rfl
      have hfz9_0 := zaf BK101.out 0
      have p102 : 0 ≤ (x4_1 : Int) := of_decide_eq_true (by first | (with_reducible assumption) | assumption)
      have q102 : x4_1 < (l0_0.length : Int) := of_decide_eq_true (by first | (with_reducible assumption) | assumption)
      obtain ⟨ad102, A102_1, c102_1, A102_2, c102_2, e102, hx102_0, hx102_1, hx102_2, hx102_3, hx102_4, hx102_5, hl102_1, hi102_1, hl102_2, hi102_2⟩ := zbc HR0_0.out x4_1 p102 q102
      cases e102
      replace hx102_0 := (HB.out.cell (World.block_lt_of_cell? w _ hx102_0)).trans hx102_0
      replace hx102_1 := (HB.out.cell (World.block_lt_of_cell? w _ hx102_1)).trans hx102_1
      replace hx102_2 := (HB.out.cell (World.block_lt_of_cell? w _ hx102_2)).trans hx102_2
      replace hx102_3 := (HB.out.cell (World.block_lt_of_cell? w _ hx102_3)).trans hx102_3
      replace hx102_4 := (HB.out.cell (World.block_lt_of_cell? w _ hx102_4)).trans hx102_4
      replace hx102_5 := (HB.out.cell (World.block_lt_of_cell? w _ hx102_5)).trans hx102_5
      have HR102_1 := zaa.mk hi102_1
      have HC102_1 := zaa.mk hl102_1
      clear hi102_1 hl102_1
      have HR102_2 := zaa.mk hi102_2
      have HC102_2 := zaa.mk hl102_2
      clear hi102_2 hl102_2
      replace p102 := eq_true p102
      replace q102 := eq_true q102
      have p103 : 0 ≤ (x4_1 : Int) := of_decide_eq_true (by first | (with_reducible assumption) | assumption)
      have q103 : x4_1 < (l0_0.length : Int) := of_decide_eq_true (by first | (with_reducible assumption) | assumption)
      obtain ⟨ad103, A103_1, c103_1, A103_2, c103_2, e103, hx103_0, hx103_1, hx103_2, hx103_3, hx103_4, hx103_5, hl103_1, hi103_1, hl103_2, hi103_2⟩ := zbc HR0_0.out x4_1 p103 q103
      obtain rfl : ad102 = ad103 := (by injection e103)
      replace hx103_0 := (HB.out.cell (World.block_lt_of_cell? w _ hx103_0)).trans hx103_0
      replace hx103_1 := (HB.out.cell (World.block_lt_of_cell? w _ hx103_1)).trans hx103_1
      replace hx103_2 := (HB.out.cell (World.block_lt_of_cell? w _ hx103_2)).trans hx103_2
      replace hx103_3 := (HB.out.cell (World.block_lt_of_cell? w _ hx103_3)).trans hx103_3
      replace hx103_4 := (HB.out.cell (World.block_lt_of_cell? w _ hx103_4)).trans hx103_4
      replace hx103_5 := (HB.out.cell (World.block_lt_of_cell? w _ hx103_5)).trans hx103_5
      have HR103_1 := zaa.mk hi103_1
      have HC103_1 := zaa.mk hl103_1
      clear hi103_1 hl103_1
      have HR103_2 := zaa.mk hi103_2
      have HC103_2 := zaa.mk hl103_2
      clear hi103_2 hl103_2
      replace p103 := eq_true p103
      replace q103 := eq_true q103
      have ea_ := Option.some.inj (hx102_1.symm.trans hx103_1)
      injection ea_ with ea_ en_ ec_
      subst ea_
      subst ec_
      clear en_
      have ea_ := Option.some.inj (hx102_2.symm.trans hx103_2)
      injection ea_ with ea_ en_ ec_
      subst ea_
      subst ec_
      clear en_
      have p104 : 0 ≤ (x4_1 : Int) := of_decide_eq_true (by first | (with_reducible assumption) | assumption)
      have q104 : x4_1 < (l0_0.length : Int) := of_decide_eq_true (by first | (with_reducible assumption) | assumption)
      obtain ⟨ad104, A104_1, c104_1, A104_2, c104_2, e104, hx104_0, hx104_1, hx104_2, hx104_3, hx104_4, hx104_5, hl104_1, hi104_1, hl104_2, hi104_2⟩ := zbc HR0_0.out x4_1 p104 q104
      obtain rfl : ad102 = ad104 := (by injection e104)
      replace hx104_0 := (HB.out.cell (World.block_lt_of_cell? w _ hx104_0)).trans hx104_0
      replace hx104_1 := (HB.out.cell (World.block_lt_of_cell? w _ hx104_1)).trans hx104_1
      replace hx104_2 := (HB.out.cell (World.block_lt_of_cell? w _ hx104_2)).trans hx104_2
      replace hx104_3 := (HB.out.cell (World.block_lt_of_cell? w _ hx104_3)).trans hx104_3
      replace hx104_4 := (HB.out.cell (World.block_lt_of_cell? w _ hx104_4)).trans hx104_4
      replace hx104_5 := (HB.out.cell (World.block_lt_of_cell? w _ hx104_5)).trans hx104_5
      have HR104_1 := zaa.mk hi104_1
      have HC104_1 := zaa.mk hl104_1
      clear hi104_1 hl104_1
      have HR104_2 := zaa.mk hi104_2
      have HC104_2 := zaa.mk hl104_2
      clear hi104_2 hl104_2
      replace p104 := eq_true p104
      replace q104 := eq_true q104
      have ea_ := Option.some.inj (hx102_1.symm.trans hx104_1)
      injection ea_ with ea_ en_ ec_
      subst ea_
      subst ec_
      clear en_
      have ea_ := Option.some.inj (hx102_2.symm.trans hx104_2)
      injection ea_ with ea_ en_ ec_
      subst ea_
      subst ec_
      clear en_
      go_wp2
      repeat (go_quiet (fail); try go_wp2)
      go_roundg k1
      case measure => have := HK1.out; omega
      case rel => exact ⟨(wrap64 ((wrap64 ((wrap64 (x3_1 + (wrap64 (30 * (((zah l0_0 x4_1).f2).length : Int))))) + (((zah l0_0 x4_1).f1).length : Int))) + (((zah l0_0 x4_1).f3).size : Int))), (wrap64 (x4_1 + 1)), (by first | rfl | (simp; done) | (simp [*]; done)), (by first | rfl | (simp; done) | (simp [*]; done)), H', ⟨by have := HK1.out; omega⟩, ⟨by (with_reducible repeat (first | refine zaj ?_ _ | refine zak ?_ | refine zai ?_ _)); exact BK101.out⟩, ⟨by repeat (first | (with_reducible first | exact HB.out | apply zad | apply zab | apply zae | refine zal ?_ GE101.out) | exact HB.out)⟩⟩
     ·rw [if_neg c8] at H
      exact absurd H (by simp)
    ·rw [if_neg c7] at H
     have c7b0 : decide (x4_1 < (l0_0.length : Int)) = false := decide_eq_false c7
     clear c7
     obtain rfl := Option.some.inj H
     have hcz10_0 := (zac BK101.out 0).trans rfl
     have hfz10_0 := zaf BK101.out 0
     go_wp2
     repeat (go_quiet (fail); try go_wp2)
     go_ret
     exact ⟨by first | rfl | (simp [zaw, zav] <;> rfl) | (simp [*, zaw, zav] <;> rfl), by repeat (first | (with_reducible first | exact HB.out | apply zad | apply zab | apply zae | refine zal ?_ GE101.out) | exact HB.out)⟩
def zaV.l0 : Nat → Int → Int → List (S40) → List (S44) → Option (Bool)
 | 0, _, _, _, _ => none
 | k + 1, x3, x4, x106000, x106001 => if x4 < (x106001.length : Int) then (if x4 < 14 then (if 0 ≤ x4 then (zaV.l0 k (wrap64 ((wrap64 ((wrap64 (x3 + (((zaU x106001 x4).f10).length : Int))) + (((zaU x106001 x4).f4).size : Int))) + (((zaU x106001 x4).f5).size : Int))) (wrap64 (x4 + 1)) x106000 x106001) else (none)) else (if x3 > 40000 then (some true) else ((zaJ.f k x106000).bind fun t109 => (some t109)))) else (if x3 > 40000 then (some true) else ((zaJ.f k x106000).bind fun t110 => (some t110)))
def zaV.f (k : Nat) (l0_0 : List (S40)) (l0_1 : List (S44)) : Option (Bool) := zaV.l0 k 0 0 l0_0 l0_1
set_option maxHeartbeats 8000000 in
set_option maxRecDepth 100000 in
theorem zaV.calls (k : Nat) (A0_0 : Option Addr) (c0_0 : Nat) (l0_0 : List (S40)) (A0_1 : Option Addr) (c0_1 : Nat) (l0_1 : List (S44)) (r : Bool) (w : World) (hr0_0 : Kd.C k40 w A0_0 l0_0.length l0_0) (hc0_0 : l0_0.length ≤ c0_0) (hr0_1 : Kd.C k44 w A0_1 l0_1.length l0_1) (hc0_1 : l0_1.length ≤ c0_1) (h : zaV.f k l0_0 l0_1 = some r) :
  Calls Tryz.prog 12 #[.agg #[.slice A0_0 l0_0.length c0_0, .slice A0_1 l0_1.length c0_1]] w fun e w' => e = .returned (.bool r) ∧ Below w.heap.size w w' := by
 have hu27 := Tryz.underlying27
 have hu24 := Tryz.underlying24
 have HR0_0 := zaa.mk hr0_0
 have HC0_0 := zaa.mk hc0_0
 clear hr0_0 hc0_0
 have HR0_1 := zaa.mk hr0_1
 have HC0_1 := zaa.mk hc0_1
 clear hr0_1 hc0_1
 have HB := zaa.mk (Below.refl w.heap.size w)
 have H : (zaV.l0 k 0 0 l0_0 l0_1) = some r := h
 clear h
 have H' := zaa.mk H
 clear H
 go_enter Tryz.func12, Tryz.ntmps12
 go_wp2_with (first | ((with_reducible refine zaS (N := 1) rfl ?_); refine zaG ?hg (N := 1) ?hd (cs := #[.slice A0_0 l0_0.length c0_0, .slice A0_1 l0_1.length c0_1]) (t := 27) ?hr ?_; (case hd => rfl); (case hg => rfl); (case hr => first | (go_simp; done) | (go_simp; rfl)); intro gb105 hg w2 hbox hb; have n0_ := zaa.mk (zam (by repeat (first | (with_reducible first | exact HB.out | apply zad | apply zab | apply zae) | exact HB.out)) hb); have n1_ := zaa.mk (hbox); have n2_ := zaa.mk ((by rw [hg]; exact (zar (by repeat (first | (with_reducible first | exact HB.out | apply zad | apply zab | apply zae) | exact HB.out))) : w.heap.size ≤ gb105)); have n3_ := zaa.mk ((by rw [hg]; exact (zar (by repeat (first | (with_reducible first | exact HB.out | apply zad | apply zab | apply zae) | exact HB.out))) : w.heap.size ≤ gb105)); clear HB; have HB := n0_; have BK105 := n1_; have GW105 := n2_; have GE105 := n3_; clear n0_ n1_ n2_ n3_; clear hb hbox hg))
 repeat (go_quiet (first | ((with_reducible refine zaS (N := 1) rfl ?_); refine zaG ?hg (N := 1) ?hd (cs := #[.slice A0_0 l0_0.length c0_0, .slice A0_1 l0_1.length c0_1]) (t := 27) ?hr ?_; (case hd => rfl); (case hg => rfl); (case hr => first | (go_simp; done) | (go_simp; rfl)); intro gb105 hg w2 hbox hb; have n0_ := zaa.mk (zam (by repeat (first | (with_reducible first | exact HB.out | apply zad | apply zab | apply zae) | exact HB.out)) hb); have n1_ := zaa.mk (hbox); have n2_ := zaa.mk ((by rw [hg]; exact (zar (by repeat (first | (with_reducible first | exact HB.out | apply zad | apply zab | apply zae) | exact HB.out))) : w.heap.size ≤ gb105)); have n3_ := zaa.mk ((by rw [hg]; exact (zar (by repeat (first | (with_reducible first | exact HB.out | apply zad | apply zab | apply zae) | exact HB.out))) : w.heap.size ≤ gb105)); clear HB; have HB := n0_; have BK105 := n1_; have GW105 := n2_; have GE105 := n3_; clear n0_ n1_ n2_ n3_; clear hb hbox hg)); try go_wp2_with (first | ((with_reducible refine zaS (N := 1) rfl ?_); refine zaG ?hg (N := 1) ?hd (cs := #[.slice A0_0 l0_0.length c0_0, .slice A0_1 l0_1.length c0_1]) (t := 27) ?hr ?_; (case hd => rfl); (case hg => rfl); (case hr => first | (go_simp; done) | (go_simp; rfl)); intro gb105 hg w2 hbox hb; have n0_ := zaa.mk (zam (by repeat (first | (with_reducible first | exact HB.out | apply zad | apply zab | apply zae) | exact HB.out)) hb); have n1_ := zaa.mk (hbox); have n2_ := zaa.mk ((by rw [hg]; exact (zar (by repeat (first | (with_reducible first | exact HB.out | apply zad | apply zab | apply zae) | exact HB.out))) : w.heap.size ≤ gb105)); have n3_ := zaa.mk ((by rw [hg]; exact (zar (by repeat (first | (with_reducible first | exact HB.out | apply zad | apply zab | apply zae) | exact HB.out))) : w.heap.size ≤ gb105)); clear HB; have HB := n0_; have BK105 := n1_; have GW105 := n2_; have GE105 := n3_; clear n0_ n1_ n2_ n3_; clear hb hbox hg)))
 go_loopg [3, 4] k (fun kq v3 v4 w' => ∃ (x3_1 : Int) (x4_1 : Int), v3 = .int .i64 x3_1 ∧ v4 = .int .i64 x4_1 ∧ zaa (zaV.l0 kq x3_1 x4_1 l0_0 l0_1 = some r) ∧ zaa (kq ≤ k) ∧ zaa (w'.heap[gb105]? = some (.cells #[(.slice A0_0 l0_0.length c0_0), (.slice A0_1 l0_1.length c0_1)] 27 (0, 0))) ∧ zaa (Below w.heap.size w w'))
 case atStart => exact ⟨(0), (0), (by first | rfl | (simp; done) | (simp [*]; done)), (by first | rfl | (simp; done) | (simp [*]; done)), H', ⟨Nat.le_refl _⟩, ⟨by (with_reducible repeat (first | refine zaj ?_ _ | refine zak ?_ | refine zai ?_ _)); exact BK105.out⟩, ⟨by repeat (first | (with_reducible first | exact HB.out | apply zad | apply zab | apply zae | refine zal ?_ GE105.out) | exact HB.out)⟩⟩
 case round =>
  clear H'
  obtain ⟨x3_1, x4_1, rfl, rfl, HA, HK1, BK105, HB⟩ := hrel
  cases gk with
  | zero => exact absurd HA.out (by simp [zaV.l0])
  | succ k1 =>
   have H := HA.out
   clear HA
   simp only [zaV.l0] at H
   by_cases c3 : x4_1 < (l0_1.length : Int)
   ·rw [if_pos c3] at H
    have c3b0 : decide (x4_1 < (l0_1.length : Int)) = true := decide_eq_true c3
    clear c3
    by_cases c4 : x4_1 < 14
    ·rw [if_pos c4] at H
     have c4b0 : decide (x4_1 < 14) = true := decide_eq_true c4
     clear c4
     by_cases c5 : 0 ≤ x4_1
     ·rw [if_pos c5] at H
      have c5b0 : decide (0 ≤ x4_1) = true := decide_eq_true c5
      clear c5
      have H' := zaa.mk H
      clear H
      have hcz6_0 := (zac BK105.out 0).trans rfl
      have hcz6_1 := (zac BK105.out 1).trans rfl
      have hfz6_0 := zaf BK105.out 0
      have hfz6_1 := zaf BK105.out 1
      have p106 : 0 ≤ (x4_1 : Int) := of_decide_eq_true (by first | (with_reducible assumption) | assumption)
      have q106 : x4_1 < (l0_1.length : Int) := of_decide_eq_true (by first | (with_reducible assumption) | assumption)
      obtain ⟨ad106, A106_10, c106_10, e106, hx106_0, hx106_1, hx106_2, hx106_3, hx106_4, hx106_5, hx106_6, hx106_7, hx106_8, hx106_9, hx106_10, hx106_11, hl106_10, hi106_10⟩ := at_T44 HR0_1.out x4_1 p106 q106
      cases e106
      replace hx106_0 := (HB.out.cell (World.block_lt_of_cell? w _ hx106_0)).trans hx106_0
      replace hx106_1 := (HB.out.cell (World.block_lt_of_cell? w _ hx106_1)).trans hx106_1
      replace hx106_2 := (HB.out.cell (World.block_lt_of_cell? w _ hx106_2)).trans hx106_2
      replace hx106_3 := (HB.out.cell (World.block_lt_of_cell? w _ hx106_3)).trans hx106_3
      replace hx106_4 := (HB.out.cell (World.block_lt_of_cell? w _ hx106_4)).trans hx106_4
      replace hx106_5 := (HB.out.cell (World.block_lt_of_cell? w _ hx106_5)).trans hx106_5
      replace hx106_6 := (HB.out.cell (World.block_lt_of_cell? w _ hx106_6)).trans hx106_6
      replace hx106_7 := (HB.out.cell (World.block_lt_of_cell? w _ hx106_7)).trans hx106_7
      replace hx106_8 := (HB.out.cell (World.block_lt_of_cell? w _ hx106_8)).trans hx106_8
      replace hx106_9 := (HB.out.cell (World.block_lt_of_cell? w _ hx106_9)).trans hx106_9
      replace hx106_10 := (HB.out.cell (World.block_lt_of_cell? w _ hx106_10)).trans hx106_10
      replace hx106_11 := (HB.out.cell (World.block_lt_of_cell? w _ hx106_11)).trans hx106_11
      have HR106_10 := zaa.mk hi106_10
      have HC106_10 := zaa.mk hl106_10
      clear hi106_10 hl106_10
      replace p106 := eq_true p106
      replace q106 := eq_true q106
      have p107 : 0 ≤ (x4_1 : Int) := of_decide_eq_true (by first | (with_reducible assumption) | assumption)
      have q107 : x4_1 < (l0_1.length : Int) := of_decide_eq_true (by first | (with_reducible assumption) | assumption)
      obtain ⟨ad107, A107_10, c107_10, e107, hx107_0, hx107_1, hx107_2, hx107_3, hx107_4, hx107_5, hx107_6, hx107_7, hx107_8, hx107_9, hx107_10, hx107_11, hl107_10, hi107_10⟩ := at_T44 HR0_1.out x4_1 p107 q107
      obtain rfl : ad106 = ad107 := (by injection e107)
      replace hx107_0 := (HB.out.cell (World.block_lt_of_cell? w _ hx107_0)).trans hx107_0
      replace hx107_1 := (HB.out.cell (World.block_lt_of_cell? w _ hx107_1)).trans hx107_1
      replace hx107_2 := (HB.out.cell (World.block_lt_of_cell? w _ hx107_2)).trans hx107_2
      replace hx107_3 := (HB.out.cell (World.block_lt_of_cell? w _ hx107_3)).trans hx107_3
      replace hx107_4 := (HB.out.cell (World.block_lt_of_cell? w _ hx107_4)).trans hx107_4
      replace hx107_5 := (HB.out.cell (World.block_lt_of_cell? w _ hx107_5)).trans hx107_5
      replace hx107_6 := (HB.out.cell (World.block_lt_of_cell? w _ hx107_6)).trans hx107_6
      replace hx107_7 := (HB.out.cell (World.block_lt_of_cell? w _ hx107_7)).trans hx107_7
      replace hx107_8 := (HB.out.cell (World.block_lt_of_cell? w _ hx107_8)).trans hx107_8
      replace hx107_9 := (HB.out.cell (World.block_lt_of_cell? w _ hx107_9)).trans hx107_9
      replace hx107_10 := (HB.out.cell (World.block_lt_of_cell? w _ hx107_10)).trans hx107_10
      replace hx107_11 := (HB.out.cell (World.block_lt_of_cell? w _ hx107_11)).trans hx107_11
      have HR107_10 := zaa.mk hi107_10
      have HC107_10 := zaa.mk hl107_10
      clear hi107_10 hl107_10
      replace p107 := eq_true p107
      replace q107 := eq_true q107
      have ea_ := Option.some.inj (hx106_10.symm.trans hx107_10)
      injection ea_ with ea_ en_ ec_
      subst ea_
      subst ec_
      clear en_
      have p108 : 0 ≤ (x4_1 : Int) := of_decide_eq_true (by first | (with_reducible assumption) | assumption)
      have q108 : x4_1 < (l0_1.length : Int) := of_decide_eq_true (by first | (with_reducible assumption) | assumption)
      obtain ⟨ad108, A108_10, c108_10, e108, hx108_0, hx108_1, hx108_2, hx108_3, hx108_4, hx108_5, hx108_6, hx108_7, hx108_8, hx108_9, hx108_10, hx108_11, hl108_10, hi108_10⟩ := at_T44 HR0_1.out x4_1 p108 q108
      obtain rfl : ad106 = ad108 := (by injection e108)
      replace hx108_0 := (HB.out.cell (World.block_lt_of_cell? w _ hx108_0)).trans hx108_0
      replace hx108_1 := (HB.out.cell (World.block_lt_of_cell? w _ hx108_1)).trans hx108_1
      replace hx108_2 := (HB.out.cell (World.block_lt_of_cell? w _ hx108_2)).trans hx108_2
      replace hx108_3 := (HB.out.cell (World.block_lt_of_cell? w _ hx108_3)).trans hx108_3
      replace hx108_4 := (HB.out.cell (World.block_lt_of_cell? w _ hx108_4)).trans hx108_4
      replace hx108_5 := (HB.out.cell (World.block_lt_of_cell? w _ hx108_5)).trans hx108_5
      replace hx108_6 := (HB.out.cell (World.block_lt_of_cell? w _ hx108_6)).trans hx108_6
      replace hx108_7 := (HB.out.cell (World.block_lt_of_cell? w _ hx108_7)).trans hx108_7
      replace hx108_8 := (HB.out.cell (World.block_lt_of_cell? w _ hx108_8)).trans hx108_8
      replace hx108_9 := (HB.out.cell (World.block_lt_of_cell? w _ hx108_9)).trans hx108_9
      replace hx108_10 := (HB.out.cell (World.block_lt_of_cell? w _ hx108_10)).trans hx108_10
      replace hx108_11 := (HB.out.cell (World.block_lt_of_cell? w _ hx108_11)).trans hx108_11
      have HR108_10 := zaa.mk hi108_10
      have HC108_10 := zaa.mk hl108_10
      clear hi108_10 hl108_10
      replace p108 := eq_true p108
      replace q108 := eq_true q108
      have ea_ := Option.some.inj (hx106_10.symm.trans hx108_10)
      injection ea_ with ea_ en_ ec_
      subst ea_
      subst ec_
      clear en_
      go_wp2
      repeat (go_quiet (fail); try go_wp2)
      go_roundg k1
      case measure => have := HK1.out; omega
      case rel => exact ⟨(wrap64 ((wrap64 ((wrap64 (x3_1 + (((zaU l0_1 x4_1).f10).length : Int))) + (((zaU l0_1 x4_1).f4).size : Int))) + (((zaU l0_1 x4_1).f5).size : Int))), (wrap64 (x4_1 + 1)), (by first | rfl | (simp; done) | (simp [*]; done)), (by first | rfl | (simp; done) | (simp [*]; done)), H', ⟨by have := HK1.out; omega⟩, ⟨by (with_reducible repeat (first | refine zaj ?_ _ | refine zak ?_ | refine zai ?_ _)); exact BK105.out⟩, ⟨by repeat (first | (with_reducible first | exact HB.out | apply zad | apply zab | apply zae | refine zal ?_ GE105.out) | exact HB.out)⟩⟩
     ·rw [if_neg c5] at H
      exact absurd H (by simp)
    ·rw [if_neg c4] at H
     have c4b0 : decide (x4_1 < 14) = false := decide_eq_false c4
     clear c4
     by_cases c7 : x3_1 > 40000
     ·rw [if_pos c7] at H
      have c7b0 : decide (40000 < x3_1) = true := decide_eq_true c7
      clear c7
      obtain rfl := Option.some.inj H
      have hcz8_0 := (zac BK105.out 0).trans rfl
      have hcz8_1 := (zac BK105.out 1).trans rfl
      have hfz8_0 := zaf BK105.out 0
      have hfz8_1 := zaf BK105.out 1
      go_wp2
      repeat (go_quiet (fail); try go_wp2)
      go_ret
      exact ⟨by first | rfl | (simp [zaw, zav] <;> rfl) | (simp [*, zaw, zav] <;> rfl), by repeat (first | (with_reducible first | exact HB.out | apply zad | apply zab | apply zae | refine zal ?_ GE105.out) | exact HB.out)⟩
     ·rw [if_neg c7] at H
      have c7b0 : decide (40000 < x3_1) = false := decide_eq_false c7
      clear c7
      replace H := Option.bind_eq_some_iff.mp H
      obtain ⟨t109, A90, H⟩ := H
      replace H : (some t109) = some r := H
      have A9 := zaa.mk A90
      clear A90
      obtain rfl := Option.some.inj H
      have hcz10_0 := (zac BK105.out 0).trans rfl
      have hcz10_1 := (zac BK105.out 1).trans rfl
      have hfz10_0 := zaf BK105.out 0
      have hfz10_1 := zaf BK105.out 1
      go_wp2_with (first | (go_at_call 21; (with_reducible refine (zaJ.calls k1 _ _ l0_0 t109 _ ?side1 ?side2 A9.out).mono ?_); (case side1 => repeat (first | exact (Kd.C_below HR0_0.out HB.out) | (with_reducible refine Kd.C_alloc ?_ _) | (with_reducible refine Kd.C_drewN ?_ _) | (with_reducible refine Kd.C_drew ?_))); (case side2 => exact HC0_0.out); rintro e w11 ⟨rfl, hb⟩; have n0_ := zaa.mk (zan (g := gb105) (o := .cells #[.slice A0_0 l0_0.length c0_0, .slice A0_1 l0_1.length c0_1] 27 (0, 0)) (by (with_reducible repeat (first | refine zaj ?_ _ | refine zak ?_ | refine zai ?_ _)); exact BK105.out) hb); have n1_ := zaa.mk (zam (by repeat (first | (with_reducible first | exact HB.out | apply zad | apply zab | apply zae | refine zal ?_ GE105.out) | exact HB.out)) hb); clear BK105; clear HB; have BK105 := n0_; have HB := n1_; clear n0_ n1_; (try clear hb); (try clear hb2); (try clear hk); (try clear hi)))
      repeat (go_quiet (first | (go_at_call 21; (with_reducible refine (zaJ.calls k1 _ _ l0_0 t109 _ ?side1 ?side2 A9.out).mono ?_); (case side1 => repeat (first | exact (Kd.C_below HR0_0.out HB.out) | (with_reducible refine Kd.C_alloc ?_ _) | (with_reducible refine Kd.C_drewN ?_ _) | (with_reducible refine Kd.C_drew ?_))); (case side2 => exact HC0_0.out); rintro e w11 ⟨rfl, hb⟩; have n0_ := zaa.mk (zan (g := gb105) (o := .cells #[.slice A0_0 l0_0.length c0_0, .slice A0_1 l0_1.length c0_1] 27 (0, 0)) (by (with_reducible repeat (first | refine zaj ?_ _ | refine zak ?_ | refine zai ?_ _)); exact BK105.out) hb); have n1_ := zaa.mk (zam (by repeat (first | (with_reducible first | exact HB.out | apply zad | apply zab | apply zae | refine zal ?_ GE105.out) | exact HB.out)) hb); clear BK105; clear HB; have BK105 := n0_; have HB := n1_; clear n0_ n1_; (try clear hb); (try clear hb2); (try clear hk); (try clear hi))); try go_wp2_with (first | (go_at_call 21; (with_reducible refine (zaJ.calls k1 _ _ l0_0 t109 _ ?side1 ?side2 A9.out).mono ?_); (case side1 => repeat (first | exact (Kd.C_below HR0_0.out HB.out) | (with_reducible refine Kd.C_alloc ?_ _) | (with_reducible refine Kd.C_drewN ?_ _) | (with_reducible refine Kd.C_drew ?_))); (case side2 => exact HC0_0.out); rintro e w11 ⟨rfl, hb⟩; have n0_ := zaa.mk (zan (g := gb105) (o := .cells #[.slice A0_0 l0_0.length c0_0, .slice A0_1 l0_1.length c0_1] 27 (0, 0)) (by (with_reducible repeat (first | refine zaj ?_ _ | refine zak ?_ | refine zai ?_ _)); exact BK105.out) hb); have n1_ := zaa.mk (zam (by repeat (first | (with_reducible first | exact HB.out | apply zad | apply zab | apply zae | refine zal ?_ GE105.out) | exact HB.out)) hb); clear BK105; clear HB; have BK105 := n0_; have HB := n1_; clear n0_ n1_; (try clear hb); (try clear hb2); (try clear hk); (try clear hi))))
      go_ret
      exact ⟨by first | rfl | (simp [zaw, zav] <;> rfl) | (simp [*, zaw, zav] <;> rfl), by repeat (first | (with_reducible first | exact HB.out | apply zad | apply zab | apply zae | refine zal ?_ GE105.out) | exact HB.out)⟩
   ·rw [if_neg c3] at H
    have c3b0 : decide (x4_1 < (l0_1.length : Int)) = false := decide_eq_false c3
    clear c3
    by_cases c12 : x3_1 > 40000
    ·rw [if_pos c12] at H
     have c12b0 : decide (40000 < x3_1) = true := decide_eq_true c12
     clear c12
     obtain rfl := Option.some.inj H
     have hcz13_0 := (zac BK105.out 0).trans rfl
     have hcz13_1 := (zac BK105.out 1).trans rfl
     have hfz13_0 := zaf BK105.out 0
     have hfz13_1 := zaf BK105.out 1
     go_wp2
     repeat (go_quiet (fail); try go_wp2)
     go_ret
     exact ⟨by first | rfl | (simp [zaw, zav] <;> rfl) | (simp [*, zaw, zav] <;> rfl), by repeat (first | (with_reducible first | exact HB.out | apply zad | apply zab | apply zae | refine zal ?_ GE105.out) | exact HB.out)⟩
    ·rw [if_neg c12] at H
     have c12b0 : decide (40000 < x3_1) = false := decide_eq_false c12
     clear c12
     replace H := Option.bind_eq_some_iff.mp H
     obtain ⟨t110, A140, H⟩ := H
     replace H : (some t110) = some r := H
     have A14 := zaa.mk A140
     clear A140
     obtain rfl := Option.some.inj H
     have hcz15_0 := (zac BK105.out 0).trans rfl
     have hcz15_1 := (zac BK105.out 1).trans rfl
     have hfz15_0 := zaf BK105.out 0
     have hfz15_1 := zaf BK105.out 1
     go_wp2_with (first | (go_at_call 21; (with_reducible refine (zaJ.calls k1 _ _ l0_0 t110 _ ?side1 ?side2 A14.out).mono ?_); (case side1 => repeat (first | exact (Kd.C_below HR0_0.out HB.out) | (with_reducible refine Kd.C_alloc ?_ _) | (with_reducible refine Kd.C_drewN ?_ _) | (with_reducible refine Kd.C_drew ?_))); (case side2 => exact HC0_0.out); rintro e w16 ⟨rfl, hb⟩; have n0_ := zaa.mk (zan (g := gb105) (o := .cells #[.slice A0_0 l0_0.length c0_0, .slice A0_1 l0_1.length c0_1] 27 (0, 0)) (by (with_reducible repeat (first | refine zaj ?_ _ | refine zak ?_ | refine zai ?_ _)); exact BK105.out) hb); have n1_ := zaa.mk (zam (by repeat (first | (with_reducible first | exact HB.out | apply zad | apply zab | apply zae | refine zal ?_ GE105.out) | exact HB.out)) hb); clear BK105; clear HB; have BK105 := n0_; have HB := n1_; clear n0_ n1_; (try clear hb); (try clear hb2); (try clear hk); (try clear hi)))
     repeat (go_quiet (first | (go_at_call 21; (with_reducible refine (zaJ.calls k1 _ _ l0_0 t110 _ ?side1 ?side2 A14.out).mono ?_); (case side1 => repeat (first | exact (Kd.C_below HR0_0.out HB.out) | (with_reducible refine Kd.C_alloc ?_ _) | (with_reducible refine Kd.C_drewN ?_ _) | (with_reducible refine Kd.C_drew ?_))); (case side2 => exact HC0_0.out); rintro e w16 ⟨rfl, hb⟩; have n0_ := zaa.mk (zan (g := gb105) (o := .cells #[.slice A0_0 l0_0.length c0_0, .slice A0_1 l0_1.length c0_1] 27 (0, 0)) (by (with_reducible repeat (first | refine zaj ?_ _ | refine zak ?_ | refine zai ?_ _)); exact BK105.out) hb); have n1_ := zaa.mk (zam (by repeat (first | (with_reducible first | exact HB.out | apply zad | apply zab | apply zae | refine zal ?_ GE105.out) | exact HB.out)) hb); clear BK105; clear HB; have BK105 := n0_; have HB := n1_; clear n0_ n1_; (try clear hb); (try clear hb2); (try clear hk); (try clear hi))); try go_wp2_with (first | (go_at_call 21; (with_reducible refine (zaJ.calls k1 _ _ l0_0 t110 _ ?side1 ?side2 A14.out).mono ?_); (case side1 => repeat (first | exact (Kd.C_below HR0_0.out HB.out) | (with_reducible refine Kd.C_alloc ?_ _) | (with_reducible refine Kd.C_drewN ?_ _) | (with_reducible refine Kd.C_drew ?_))); (case side2 => exact HC0_0.out); rintro e w16 ⟨rfl, hb⟩; have n0_ := zaa.mk (zan (g := gb105) (o := .cells #[.slice A0_0 l0_0.length c0_0, .slice A0_1 l0_1.length c0_1] 27 (0, 0)) (by (with_reducible repeat (first | refine zaj ?_ _ | refine zak ?_ | refine zai ?_ _)); exact BK105.out) hb); have n1_ := zaa.mk (zam (by repeat (first | (with_reducible first | exact HB.out | apply zad | apply zab | apply zae | refine zal ?_ GE105.out) | exact HB.out)) hb); clear BK105; clear HB; have BK105 := n0_; have HB := n1_; clear n0_ n1_; (try clear hb); (try clear hb2); (try clear hk); (try clear hi))))
     go_ret
     exact ⟨by first | rfl | (simp [zaw, zav] <;> rfl) | (simp [*, zaw, zav] <;> rfl), by repeat (first | (with_reducible first | exact HB.out | apply zad | apply zab | apply zae | refine zal ?_ GE105.out) | exact HB.out)⟩
def za3.f (a0 : Int) : Option (Int) := some a0
set_option maxHeartbeats 8000000 in
set_option maxRecDepth 100000 in
theorem za3.calls (a0 : Int) (r : Int) (w : World) (h : za3.f a0 = some r) :
  Calls Tryz.prog 15 #[.int .i64 a0] w fun e w' => e = .returned (.int .i64 r) ∧ zaQ w w' := by
 have H : (some a0) = some r := h
 clear h
 obtain rfl := Option.some.inj H
 go_enter Tryz.func15, Tryz.ntmps15
 go_wp2
 go_ret
 exact ⟨by first | rfl | (simp; done) | (simp [*]; done), by repeat (first | exact zaQ.refl _ | apply zaQ.step)⟩
def tree_Has.f (l0_0 : List (S40)) (a1 : Int) : Option (Bool) := if a1 ≥ 0 then (if a1 < (l0_0.length : Int) then (if 0 ≤ a1 then (some (((zah l0_0 a1).f0) != 0)) else (none)) else (some false)) else (some false)
set_option maxHeartbeats 8000000 in
set_option maxRecDepth 100000 in
theorem tree_Has.calls (A0_0 : Option Addr) (c0_0 : Nat) (l0_0 : List (S40)) (a1 : Int) (r : Bool) (w : World) (hr0_0 : Kd.C k40 w A0_0 l0_0.length l0_0) (hc0_0 : l0_0.length ≤ c0_0) (h : tree_Has.f l0_0 a1 = some r) :
  Calls Tryz.prog 97 #[.agg #[.slice A0_0 l0_0.length c0_0], .int .i64 a1] w fun e w' => e = .returned (.bool r) ∧ Below w.heap.size w w' := by
 have hu24 := Tryz.underlying24
 have HR0_0 := zaa.mk hr0_0
 have HC0_0 := zaa.mk hc0_0
 clear hr0_0 hc0_0
 have HB := zaa.mk (Below.refl w.heap.size w)
 have H : (if a1 ≥ 0 then (if a1 < (l0_0.length : Int) then (if 0 ≤ a1 then (some (((zah l0_0 a1).f0) != 0)) else (none)) else (some false)) else (some false)) = some r := h
 clear h
 by_cases c3 : a1 ≥ 0
 ·rw [if_pos c3] at H
  have c3b0 : decide (0 ≤ a1) = true := decide_eq_true c3
  clear c3
  by_cases c4 : a1 < (l0_0.length : Int)
  ·rw [if_pos c4] at H
   have c4b0 : decide (a1 < (l0_0.length : Int)) = true := decide_eq_true c4
   clear c4
   by_cases c5 : 0 ≤ a1
   ·rw [if_pos c5] at H
    have c5b0 : decide (0 ≤ a1) = true := decide_eq_true c5
    clear c5
    obtain rfl := Option.some.inj H
    go_enter Tryz.func97, Tryz.ntmps97
    go_wp2_with (first | ((with_reducible refine zaS (N := 2) rfl ?_); (try (refine zby (by rfl) ?_; dsimp only)); refine zaG ?hg (N := 2) ?hd (cs := #[.slice A0_0 l0_0.length c0_0]) (t := 24) ?hr ?_; (case hd => rfl); (case hg => rfl); (case hr => first | (go_simp; done) | (go_simp; rfl)); intro gb211 hg w6 hbox hb; have n0_ := zaa.mk (zam (by repeat (first | (with_reducible first | exact HB.out | apply zad | apply zab | apply zae) | exact HB.out)) hb); have n1_ := zaa.mk (hbox); have n2_ := zaa.mk ((by rw [hg]; exact (zar (by repeat (first | (with_reducible first | exact HB.out | apply zad | apply zab | apply zae) | exact HB.out))) : w.heap.size ≤ gb211)); have n3_ := zaa.mk ((by rw [hg]; exact (zar (by repeat (first | (with_reducible first | exact HB.out | apply zad | apply zab | apply zae) | exact HB.out))) : w.heap.size ≤ gb211)); clear HB; have HB := n0_; have BK211 := n1_; have GW211 := n2_; have GE211 := n3_; clear n0_ n1_ n2_ n3_; clear hb hbox hg; have hcz7_0 : w6.cell? ⟨gb211, 0, none⟩ = some (.slice A0_0 l0_0.length c0_0) := (zac BK211.out 0).trans rfl; have hfz7_0 := zaf BK211.out 0; have p212 : 0 ≤ (a1 : Int) := of_decide_eq_true (by first | (with_reducible assumption) | assumption); have q212 : a1 < (l0_0.length : Int) := of_decide_eq_true (by first | (with_reducible assumption) | assumption); obtain ⟨ad212, A212_1, c212_1, A212_2, c212_2, e212, hx212_0, hx212_1, hx212_2, hx212_3, hx212_4, hx212_5, hl212_1, hi212_1, hl212_2, hi212_2⟩ := zbc HR0_0.out a1 p212 q212; cases e212; replace hx212_0 := (HB.out.cell (World.block_lt_of_cell? w _ hx212_0)).trans hx212_0; replace hx212_1 := (HB.out.cell (World.block_lt_of_cell? w _ hx212_1)).trans hx212_1; replace hx212_2 := (HB.out.cell (World.block_lt_of_cell? w _ hx212_2)).trans hx212_2; replace hx212_3 := (HB.out.cell (World.block_lt_of_cell? w _ hx212_3)).trans hx212_3; replace hx212_4 := (HB.out.cell (World.block_lt_of_cell? w _ hx212_4)).trans hx212_4; replace hx212_5 := (HB.out.cell (World.block_lt_of_cell? w _ hx212_5)).trans hx212_5; have HR212_1 := zaa.mk hi212_1; have HC212_1 := zaa.mk hl212_1; clear hi212_1 hl212_1; have HR212_2 := zaa.mk hi212_2; have HC212_2 := zaa.mk hl212_2; clear hi212_2 hl212_2; replace p212 := eq_true p212; replace q212 := eq_true q212))
    go_ret
    exact ⟨by first | rfl | (simp [zaw, zav] <;> rfl) | (simp [*, zaw, zav] <;> rfl), by repeat (first | (with_reducible first | exact HB.out | apply zad | apply zab | apply zae | refine zal ?_ GE211.out) | exact HB.out)⟩
   ·rw [if_neg c5] at H
    exact absurd H (by simp)
  ·rw [if_neg c4] at H
   have c4b0 : decide (a1 < (l0_0.length : Int)) = false := decide_eq_false c4
   clear c4
   obtain rfl := Option.some.inj H
   go_enter Tryz.func97, Tryz.ntmps97
   go_wp2_with (first | ((with_reducible refine zaS (N := 2) rfl ?_); (try (refine zby (by rfl) ?_; dsimp only)); refine zaG ?hg (N := 2) ?hd (cs := #[.slice A0_0 l0_0.length c0_0]) (t := 24) ?hr ?_; (case hd => rfl); (case hg => rfl); (case hr => first | (go_simp; done) | (go_simp; rfl)); intro gb211 hg w8 hbox hb; have n0_ := zaa.mk (zam (by repeat (first | (with_reducible first | exact HB.out | apply zad | apply zab | apply zae) | exact HB.out)) hb); have n1_ := zaa.mk (hbox); have n2_ := zaa.mk ((by rw [hg]; exact (zar (by repeat (first | (with_reducible first | exact HB.out | apply zad | apply zab | apply zae) | exact HB.out))) : w.heap.size ≤ gb211)); have n3_ := zaa.mk ((by rw [hg]; exact (zar (by repeat (first | (with_reducible first | exact HB.out | apply zad | apply zab | apply zae) | exact HB.out))) : w.heap.size ≤ gb211)); clear HB; have HB := n0_; have BK211 := n1_; have GW211 := n2_; have GE211 := n3_; clear n0_ n1_ n2_ n3_; clear hb hbox hg; have hcz9_0 : w8.cell? ⟨gb211, 0, none⟩ = some (.slice A0_0 l0_0.length c0_0) := (zac BK211.out 0).trans rfl; have hfz9_0 := zaf BK211.out 0))
   go_ret
   exact ⟨by first | rfl | (simp [zaw, zav] <;> rfl) | (simp [*, zaw, zav] <;> rfl), by repeat (first | (with_reducible first | exact HB.out | apply zad | apply zab | apply zae | refine zal ?_ GE211.out) | exact HB.out)⟩
 ·rw [if_neg c3] at H
  have c3b0 : decide (0 ≤ a1) = false := decide_eq_false c3
  clear c3
  obtain rfl := Option.some.inj H
  go_enter Tryz.func97, Tryz.ntmps97
  go_wp2_with (first | ((with_reducible refine zaS (N := 2) rfl ?_); (try (refine zby (by rfl) ?_; dsimp only)); refine zaG ?hg (N := 2) ?hd (cs := #[.slice A0_0 l0_0.length c0_0]) (t := 24) ?hr ?_; (case hd => rfl); (case hg => rfl); (case hr => first | (go_simp; done) | (go_simp; rfl)); intro gb211 hg w10 hbox hb; have n0_ := zaa.mk (zam (by repeat (first | (with_reducible first | exact HB.out | apply zad | apply zab | apply zae) | exact HB.out)) hb); have n1_ := zaa.mk (hbox); have n2_ := zaa.mk ((by rw [hg]; exact (zar (by repeat (first | (with_reducible first | exact HB.out | apply zad | apply zab | apply zae) | exact HB.out))) : w.heap.size ≤ gb211)); have n3_ := zaa.mk ((by rw [hg]; exact (zar (by repeat (first | (with_reducible first | exact HB.out | apply zad | apply zab | apply zae) | exact HB.out))) : w.heap.size ≤ gb211)); clear HB; have HB := n0_; have BK211 := n1_; have GW211 := n2_; have GE211 := n3_; clear n0_ n1_ n2_ n3_; clear hb hbox hg))
  go_ret
  exact ⟨by first | rfl | (simp [zaw, zav] <;> rfl) | (simp [*, zaw, zav] <;> rfl), by repeat (first | (with_reducible first | exact HB.out | apply zad | apply zab | apply zae | refine zal ?_ GE211.out) | exact HB.out)⟩
def hasB (l : List S40) (n : Int) : Bool := decide (0 ≤ n) && (decide (n < (l.length : Int)) && ((zah l n).f0 != 0))
theorem has_f (l : List S40) (n : Int) : tree_Has.f l n = some (hasB l n) := by
 unfold tree_Has.f hasB
 by_cases h : 0 ≤ n <;> by_cases h2 : n < (l.length : Int) <;> simp [h, h2]
set_option maxHeartbeats 1000000 in
set_option maxRecDepth 100000 in
theorem zbv.fn (g : Nat) (A0 : Option Addr) (c0 : Nat) (l : List S40) (n : Int) (w : World) (hg : w.heap[g]? = some (.cells #[.slice A0 l.length c0] 24 (0, 0))) (hr : Kd.C k40 w A0 l.length l) (hc : l.length ≤ c0) :
  Calls Tryz.prog 96 #[.int .i64 n, .pointer (some ⟨g, 0, none⟩)] w fun e w' => e = .returned (.bool (!hasB l n)) ∧ Below w.heap.size w w' := by
 have HR := zaa.mk hr
 have HC := zaa.mk hc
 have hcell : w.cell? ⟨g, 0, none⟩ = some (.slice A0 l.length c0) := (zac hg 0).trans rfl
 have HF := zaa.mk (has_f l n)
 have hu := Tryz.underlying24
 clear hr hc hg
 go_enter Tryz.func96, Tryz.ntmps96
 go_wp2_with (first | (go_at_call 97; refine (tree_Has.calls A0 c0 l n (hasB l n) _ HR.out HC.out HF.out).mono ?_; rintro e w1 ⟨rfl, hb⟩))
 go_ret
 exact ⟨rfl, hb⟩
def noneAt (l : List S40) : List Int → Int → Int
 | [], _ => -1
 | n :: r, i => if hasB l n then noneAt l r (i + 1) else i
theorem noneAt_all (l : List S40) : ∀ (ns : List Int) (i : Int), 0 ≤ i → (decide (noneAt l ns i ≥ 0)) = !(ns.all fun n => hasB l n)
 | [], _, _ => rfl
 | n :: r, i, h => by
  unfold noneAt
  cases hb : hasB l n
  ·simp [hb, h]
  ·simpa [hb] using noneAt_all l r (i + 1) (by omega)
theorem noneAt_drop (l : List S40) (ns : List Int) (i : Nat) (h : i < ns.length) : noneAt l (ns.drop i) i = if hasB l (rd ns i) then noneAt l (ns.drop (i + 1)) ((i + 1 : Nat) : Int) else (i : Int) := by
 rw [List.drop_eq_getElem_cons h]
 have e : rd ns (i : Int) = ns[i] := by simp [rd, List.getD, List.getElem?_eq_getElem h]
 rw [noneAt, e]; rfl
set_option maxHeartbeats 1000000 in
set_option maxRecDepth 100000 in
theorem zbv.index (g : Nat) (A0 : Option Addr) (c0 : Nat) (l : List S40) (A1 : Option Addr) (c1 : Nat) (ns : List Int) (w : World) (hg : w.heap[g]? = some (.cells #[.slice A0 l.length c0] 24 (0, 0))) (hr : Kd.C k40 w A0 l.length l) (hc : l.length ≤ c0) (hr1 : Kd.C (Kd.int .i64) w A1 ns.length ns) (hc1 : ns.length ≤ c1) :
  Calls Tryz.prog 105 #[.slice A1 ns.length c1, .func (.func 96) #[] #[.pointer (some ⟨g, 0, none⟩)]] w fun e w' => e = .returned (.int .i64 (noneAt l ns 0)) ∧ Below w.heap.size w w' := by
 have HR := zaa.mk hr
 have HC := zaa.mk hc
 have HR1 := zaa.mk hr1
 have HG := zaa.mk hg
 have HM := zaa.mk hr1.2.1
 clear hr hc hg hr1 hc1
 go_enter Tryz.func105, Tryz.ntmps105
 go_wp2
 go_loopw [8] (fun v8 w' => ∃ i : Nat, i ≤ ns.length ∧ v8 = .int .i64 i ∧ zaa (noneAt l ns 0 = noneAt l (ns.drop i) i) ∧ zaa (Below w.heap.size w w')) (fun v8 _ => ns.length - (intOf v8).toNat)
 case atStart => exact ⟨0, Nat.zero_le _, rfl, ⟨rfl⟩, ⟨Below.refl _ _⟩⟩
 case round =>
  obtain ⟨i, hi, rfl, HE, HB⟩ := hrel
  have hmax := HM.out
  by_cases hlt : i < ns.length
  ·obtain ⟨ad, rfl, hcell0⟩ := Kd.at_int HR1.out (i : Int) (by omega) (by omega)
   have hcell := (HB.out.cell (World.block_lt_of_cell? w _ hcell0)).trans hcell0
   rw [Int.toNat_natCast] at hcell
   clear hcell0
   have hd := noneAt_drop l ns i hlt
   have F := fun w' h1 h2 => zbv.fn g A0 c0 l (rd ns i) w' h1 h2 HC.out
   cases hb : hasB l (rd ns i)
   all_goals
    rw [hb] at hd F
    have HD := zaa.mk hd
    have HF := zaa.mk F
    clear hd F hb
    go_wp2_with (first | (go_at_call 96; refine (HF.out _ ((HB.out.block g (zaO HG.out)).trans HG.out) (Kd.C_below HR.out HB.out)).mono ?_; rintro e w1 ⟨rfl, hb⟩; have HB1 := zaa.mk (zam HB.out hb); clear hb))
   ·go_ret
    exact ⟨by rw [HE.out, HD.out]; rfl, HB1.out⟩
   ·go_roundw
    case rel => exact ⟨i + 1, by omega, by go_num, ⟨by rw [HE.out, HD.out]; rfl⟩, HB1⟩
    case measure => simp [intOf]; omega
  ·go_wp2
   go_ret
   exact ⟨by rw [HE.out, List.drop_eq_nil_of_le (by omega)]; rfl, HB.out⟩
set_option maxHeartbeats 1000000 in
set_option maxRecDepth 100000 in
theorem zbv.contains (g : Nat) (A0 : Option Addr) (c0 : Nat) (l : List S40) (A1 : Option Addr) (c1 : Nat) (ns : List Int) (w : World) (hg : w.heap[g]? = some (.cells #[.slice A0 l.length c0] 24 (0, 0))) (hr : Kd.C k40 w A0 l.length l) (hc : l.length ≤ c0) (hr1 : Kd.C (Kd.int .i64) w A1 ns.length ns) (hc1 : ns.length ≤ c1) :
  Calls Tryz.prog 95 #[.slice A1 ns.length c1, .func (.func 96) #[] #[.pointer (some ⟨g, 0, none⟩)]] w fun e w' => e = .returned (.bool (!(ns.all fun n => hasB l n))) ∧ Below w.heap.size w w' := by
 have HI := zaa.mk (zbv.index g A0 c0 l A1 c1 ns w hg hr hc hr1 hc1)
 have HA := zaa.mk (noneAt_all l ns 0 (by omega))
 clear hg hr hc hr1 hc1
 go_enter Tryz.func95, Tryz.ntmps95
 go_wp2_with (first | (go_at_call 105; refine HI.out.mono ?_; rintro e w1 ⟨rfl, hb⟩))
 go_ret
 exact ⟨by show Ending.returned (.bool (decide (0 ≤ noneAt l ns 0))) = _; rw [← HA.out], hb⟩
def zbv.f (k : Nat) (l0_0 : List (S40)) (l1 : List Int) : Option Bool := (zaH.f k l0_0).bind fun t => if t = true then some (l1.all fun n => hasB l0_0 n) else some false
theorem zbv.mono : ∀ a0 a1 k, LeO (zbv.f k a0 a1) (zbv.f (k + 1) a0 a1) := fun a0 _ k => LeO.bind (zaH.mono a0 k) (fun _ => LeO.refl _)
set_option maxHeartbeats 1000000 in
set_option maxRecDepth 100000 in
theorem zbv.calls (k : Nat) (A0_0 : Option Addr) (c0_0 : Nat) (l0_0 : List (S40)) (A1 : Option Addr) (c1 : Nat) (l1 : List Int) (r : Bool) (w : World) (hr0_0 : Kd.C k40 w A0_0 l0_0.length l0_0) (hc0_0 : l0_0.length ≤ c0_0) (hr1 : Kd.C (Kd.int .i64) w A1 l1.length l1) (hc1 : l1.length ≤ c1) (h : zbv.f k l0_0 l1 = some r) :
  Calls Tryz.prog 66 #[.agg #[.slice A0_0 l0_0.length c0_0], .slice A1 l1.length c1] w fun e w' => e = .returned (.bool r) ∧ Below w.heap.size w w' := by
 obtain ⟨t, ht, h⟩ := Option.bind_eq_some_iff.mp h
 have HT := zaa.mk ht
 have HR := zaa.mk hr0_0
 have HC := zaa.mk hc0_0
 have HR1 := zaa.mk hr1
 have HC1 := zaa.mk hc1
 have hu := Tryz.underlying24
 have hmf : ∀ (fn : Fn) (first cap : Array Value) (w : World), (Instr.makeFunc fn first cap).run Tryz.prog w = .ok (.func fn first cap) w := fun _ _ _ _ => rfl
 clear ht hr0_0 hc0_0 hr1 hc1
 cases t with
 | false =>
  have h' : some false = some r := h
  obtain rfl := Option.some.inj h'
  clear h h'
  go_enter Tryz.func66, Tryz.ntmps66
  go_wp2_with (first | (go_at_call 25; refine (zaH.calls k A0_0 c0_0 l0_0 false _ (Kd.C_below HR.out (zad (Below.refl _ _) _)) HC.out HT.out).mono ?_; rintro e w1 ⟨rfl, hb⟩))
  go_ret
  exact ⟨rfl, zam (zad (Below.refl _ _) _) hb⟩
 | true =>
  have h' : some (l1.all fun n => hasB l0_0 n) = some r := h
  have HF := zaa.mk (Option.some.inj h')
  clear h h'
  go_enter Tryz.func66, Tryz.ntmps66
  go_wp2_with (first | (go_at_call 25; refine (zaH.calls k A0_0 c0_0 l0_0 true _ (Kd.C_below HR.out (zad (Below.refl _ _) _)) HC.out HT.out).mono ?_; rintro e w1 ⟨rfl, hb⟩; have HB := zaa.mk (zam (zad (Below.refl _ _) _) hb); have HG := zaa.mk ((hb.block w.heap.size (by simp)).trans (zbb w _)); clear hb) | (go_at_call 95; refine (zbv.contains w.heap.size A0_0 c0_0 l0_0 A1 c1 l1 _ HG.out (Kd.C_below HR.out HB.out) HC.out (Kd.C_below HR1.out HB.out) HC1.out).mono ?_; rintro e w2 ⟨rfl, hb⟩))
  go_ret
  exact ⟨by rw [← HF.out]; simp, zam HB.out hb⟩
end Go.Proofs.YtjghephnjkffcaaGreat.PAll
