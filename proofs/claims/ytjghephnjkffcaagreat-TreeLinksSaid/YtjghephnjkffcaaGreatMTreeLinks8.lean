/- Parts of one proof, merged by a program of this repo: walks over the given program and plain facts. -/
import Derived.Test.YtjghephnjkffcaaGreatMTreeLinks2
import Derived.Test.YtjghephnjkffcaaGreatMTreeLinks4
import Derived.Test.YtjghephnjkffcaaGreatMTreeLinks7
import Derived.Test.YtjghephnjkffcaaGreatMTreeLinks6
import Derived.Test.YtjghephnjkffcaaGreatMTreeLinks5
namespace Go.Proofs.YtjghephnjkffcaaGreat.PAll
open Go.RowKit Go.Proofs.YtjghephnjkffcaaGreatW.PrintWords Go.Proofs.YtjghephnjkffcaaGreatW.PrintLast Go.Proofs.YtjghephnjkffcaaGreatW.PrintMore
attribute [local go_sem] zbQ zbO zb6 zb5 zbD zbC zbP zbN
set_option linter.unusedVariables false
set_option linter.unusedSimpArgs false
def rNames (l : List S40) : List S50 → List Bool → Bool → Option (List Bool × Bool)
 | [], s, m => some (s, m)
 | x :: r, s, m => if 0 ≤ x.f1 ∧ x.f1 < (l.length : Int) ∧ x.f1 < 64 then (if newDir l s x.f1 = true then rNames l r (s.set x.f1.toNat true) true else rNames l r s m) else none
theorem rNames_drop (l : List S40) (ns : List S50) (i : Nat) (h : i < ns.length) (s : List Bool) (m : Bool) : rNames l (ns.drop i) s m = if 0 ≤ (zau ns i).f1 ∧ (zau ns i).f1 < (l.length : Int) ∧ (zau ns i).f1 < 64 then (if newDir l s (zau ns i).f1 = true then rNames l (ns.drop (i + 1)) (s.set (zau ns i).f1.toNat true) true else rNames l (ns.drop (i + 1)) s m) else none := by
 rw [List.drop_eq_getElem_cons h]
 have e : zau ns (i : Int) = ns[i] := by simp [zau, List.getD, List.getElem?_eq_getElem h]
 rw [rNames, e]
def rNodes (l : List S40) : Nat → Nat → List Bool → Bool → Option (List Bool × Bool)
 | 0, _, s, m => some (s, m)
 | d + 1, i, s, m => if rdOf false s (i : Int) = true then (rNames l (zak l (i : Int)).f2 s m).bind fun st => rNodes l d (i + 1) st.1 st.2 else rNodes l d (i + 1) s m
def rLoop (l : List S40) : Nat → List Bool → Bool → Option (List Bool)
 | 0, _, _ => none
 | k + 1, s, m => if m = true then (rNodes l l.length 0 s false).bind fun st => rLoop l k st.1 st.2 else some s
theorem rLoop_mono (l : List S40) : ∀ k s m, LeO (rLoop l k s m) (rLoop l (k + 1) s m)
 | 0, _, _ => fun _ h => by simp [rLoop] at h
 | k + 1, s, m => by
  unfold rLoop
  refine LeO.ite (LeO.bind (LeO.refl _) fun st => ?_) (LeO.refl _)
  exact rLoop_mono l k st.1 st.2
def zcu (l : List S40) (s : List Bool) (i : Nat) : Bool := ((zak l (i : Int)).f0 == 2) && (((zak l (i : Int)).f4 == 1) && !(rdOf false s (i : Int)))
def allSeen (l : List S40) (s : List Bool) (n : Nat) : Bool := (List.range n).all fun i => !zcu l s i
theorem allSeen_succ (l : List S40) (s : List Bool) (n : Nat) : allSeen l s (n + 1) = (allSeen l s n && !zcu l s n) := by
 unfold allSeen; rw [List.range_succ, List.all_append]; simp
theorem allSeen_false {l : List S40} {s : List Bool} {i n : Nat} (hi : i < n) (h : zcu l s i = true) : allSeen l s n = false := by
 unfold allSeen; rw [List.all_eq_false]; exact ⟨i, List.mem_range.2 hi, by simp [h]⟩
def zaz.f (k : Nat) (l0_0 : List S40) : Option Bool := if l0_0.length ≤ 64 then (rLoop l0_0 k ((List.replicate 64 false).set 0 true) true).bind fun s => some (allSeen l0_0 s l0_0.length) else none
theorem zaz.mono : ∀ a0 k, LeO (zaz.f k a0) (zaz.f (k + 1) a0) := fun a0 k => LeO.ite (LeO.bind (rLoop_mono _ _ _ _) fun _ => LeO.refl _) (LeO.refl _)
theorem rdOf_set_self (s : List Bool) (i j : Nat) (h : rdOf false s (j : Int) = true) (hi : i < s.length) : rdOf false (s.set i true) (j : Int) = true := by
 have e : ∀ (q : List Bool), rdOf false q (j : Int) = q.getD j false := fun _ => rfl
 rw [e] at h ⊢
 rw [List.getD_eq_getElem?_getD] at h ⊢
 rw [List.getElem?_set]
 by_cases e2 : i = j
 ·subst e2; simp [hi]
 ·rw [if_neg e2]; exact h
def seenA (s : List Bool) : Array Value := (s.map Value.bool).toArray
theorem seenA_cell (s : List Bool) (i : Int) (h0 : 0 ≤ i) (h1 : i < (s.length : Int)) : (seenA s)[i.toNat]? = some (.bool (rdOf false s i)) := by
 have hh : i.toNat < s.length := by omega
 simp [seenA, rdOf, List.getElem?_map, List.getElem?_eq_getElem hh, List.getD_eq_getElem?_getD]
theorem seenA_set (s : List Bool) (i : Nat) : (seenA s).setIfInBounds i (.bool true) = seenA (s.set i true) := by
 apply Array.ext'
 simp [seenA, List.map_set]
def zaz.W1 (w : World) (A : Option Addr) (n c : Nat) : World := w.alloc (.cells #[.slice A n c] 24)
theorem zaz.zbk (w : World) (A : Option Addr) (n c : Nat) : Below w.heap.size w (zaz.W1 w A n c) := zad (Below.refl _ _) _
theorem zaz.W1_size (w : World) (A : Option Addr) (n c : Nat) : (zaz.W1 w A n c).heap.size = w.heap.size + 1 := World.size_alloc _ _
theorem zaz.zb8 {w w' : World} {A : Option Addr} {n c : Nat} (h : Below (zaz.W1 w A n c).heap.size (zaz.W1 w A n c) w') : w'.cell? ⟨w.heap.size, 0, none⟩ = some (.slice A n c) :=
 (zaa ((h.block w.heap.size (by show _ < (w.alloc _).heap.size; simp)).trans (zbd w _)) 0).trans rfl
set_option maxHeartbeats 4000000 in
set_option maxRecDepth 100000 in
theorem zaz.calls (k : Nat) (A0_0 : Option Addr) (c0_0 : Nat) (l0_0 : List S40) (r : Bool) (w : World) (hr0_0 : Kd.C k40 w A0_0 l0_0.length l0_0) (hc0_0 : l0_0.length ≤ c0_0) (h : zaz.f k l0_0 = some r) :
  Calls Tryz.prog 24 #[.agg #[.slice A0_0 l0_0.length c0_0]] w fun e w' => e = .returned (.bool r) ∧ Below w.heap.size w w' := by
 unfold zaz.f at h
 split at h
 ·rename_i hm
  obtain ⟨R, hR, hE⟩ := Option.bind_eq_some_iff.mp h
  have HH := zab.mk hR
  have HRES := zab.mk (Option.some.inj hE)
  have HL := zab.mk hm
  have HR := zab.mk (Kd.C_below hr0_0 (zaz.zbk w A0_0 l0_0.length c0_0))
  have hut := Tryz.underlying24
  clear h hr0_0 hm hR hE
  go_enter Tryz.func24, Tryz.ntmps24
  go_wp2
  go_loopg [4] k (fun kq v4 w' => ∃ (s : List Bool) (m : Bool), v4 = .bool m ∧ zab (rLoop l0_0 kq s m = some R) ∧ zab (kq ≤ k) ∧ zab (s.length = 64) ∧ zab (w'.heap[w.heap.size + 1]? = some (.cells (seenA s) 93 (0, 0))) ∧ zab (Below (zaz.W1 w A0_0 l0_0.length c0_0).heap.size (zaz.W1 w A0_0 l0_0.length c0_0) w'))
  case atStart =>
   exact ⟨_, _, rfl, HH, ⟨Nat.le_refl _⟩, ⟨by kernel_rfl⟩, ⟨by have := zbd (w.alloc (.cells #[.slice A0_0 l0_0.length c0_0] 24)) (.cells (seenA ((List.replicate 64 false).set 0 true)) 93); rw [World.size_alloc] at this; exact this⟩, ⟨zad (Below.refl _ _) _⟩⟩
  case round =>
   clear HH
   obtain ⟨s, m, rfl, HE, HK, HSL, HG, HB⟩ := hrel
   cases gk with
   | zero => exact absurd HE.out (by simp [rLoop])
   | succ k1 =>
    have HE' := HE.out
    rw [rLoop] at HE'
    cases m with
    | false =>
     rw [if_neg (by simp)] at HE'
     obtain rfl := Option.some.inj HE'
     clear HE' HE HK
     have hct := zaz.zb8 HB.out
     go_wp2
     go_loop [8] (fun v8 => ∃ i : Nat, i ≤ l0_0.length ∧ v8 = .int .i64 i ∧ zab (allSeen l0_0 s i = true)) (fun v8 => l0_0.length - (intOf v8).toNat)
     case atStart => exact ⟨0, Nat.zero_le _, rfl, ⟨rfl⟩⟩
     case round =>
      obtain ⟨i, hi, rfl, HA⟩ := hrel
      have hmax : l0_0.length ≤ 9223372036854775807 := by have := HL.out; omega
      by_cases hlt : i < l0_0.length
      ·obtain ⟨na, A1, c1, A2, c2, rfl, hx0, hx1, hx2, hx3, hx4, hx5, hl1, hi1, hl2, hi2⟩ := zbl HR.out (i : Int) (by omega) (by omega)
       clear hx1 hx2 hx3 hx5 hl1 hi1 hl2 hi2
       replace hx0 := (HB.out.cell (World.block_lt_of_cell? _ _ hx0)).trans hx0
       replace hx4 := (HB.out.cell (World.block_lt_of_cell? _ _ hx4)).trans hx4
       rw [Int.toNat_natCast] at hx0 hx4
       have hs0 := (zaa HG.out i).trans (seenA_cell s (i : Int) (by omega) (by have := HSL.out; have := HL.out; omega))
       have h64 : i < 64 := by have := HL.out; omega
       have HS := zab.mk (allSeen_succ l0_0 s i)
       have HF := zab.mk (fun h => allSeen_false (l := l0_0) (s := s) hlt h)
       by_cases ck : (zak l0_0 i).f0 = 2
       ·have hk : ((zak l0_0 i).f0 == 2) = true := by simpa using ck
        by_cases cl : (zak l0_0 i).f4 = 1
        ·have hl : ((zak l0_0 i).f4 == 1) = true := by simpa using cl
         cases hsn : rdOf false s (i : Int)
         ·have HN : zab (zcu l0_0 s i = true) := ⟨by unfold zcu; rw [hk, hl, hsn]; rfl⟩
          rw [hsn] at hs0
          clear hsn ck cl
          go_wp2
          go_ret
          exact ⟨by rw [← HRES.out, HF.out HN.out]; rfl, zan (zaz.zbk _ _ _ _) HB.out⟩
         ·have HN : zab (zcu l0_0 s i = false) := ⟨by unfold zcu; rw [hk, hl, hsn]; rfl⟩
          rw [hsn] at hs0
          clear hsn ck cl
          go_wp2
          go_round
          case rel => exact ⟨i + 1, by omega, by go_num, ⟨by rw [HS.out, HA.out, HN.out]; rfl⟩⟩
          case measure => simp [intOf]; omega
        ·have hl : ((zak l0_0 i).f4 == 1) = false := by simpa using cl
         have HN : zab (zcu l0_0 s i = false) := ⟨by unfold zcu; rw [hk, hl]; rfl⟩
         clear ck cl
         go_wp2
         go_round
         case rel => exact ⟨i + 1, by omega, by go_num, ⟨by rw [HS.out, HA.out, HN.out]; rfl⟩⟩
         case measure => simp [intOf]; omega
       ·have hk : ((zak l0_0 i).f0 == 2) = false := by simpa using ck
        have HN : zab (zcu l0_0 s i = false) := ⟨by unfold zcu; rw [hk]; rfl⟩
        clear ck
        go_wp2
        go_round
        case rel => exact ⟨i + 1, by omega, by go_num, ⟨by rw [HS.out, HA.out, HN.out]; rfl⟩⟩
        case measure => simp [intOf]; omega
      ·obtain rfl : i = l0_0.length := by omega
       go_wp2
       go_ret
       exact ⟨by rw [← HRES.out, HA.out]; rfl, zan (zaz.zbk _ _ _ _) HB.out⟩
    | true =>
     rw [if_pos rfl] at HE'
     obtain ⟨st, hst, hrec⟩ := Option.bind_eq_some_iff.mp HE'
     have HND := zab.mk hst
     have HRE := zab.mk hrec
     clear HE' HE hst hrec
     have hct := zaz.zb8 HB.out
     go_wp2
     go_loopw [4, 5] (fun v4 v5 w' => ∃ (i : Nat) (m : Bool) (s : List Bool), i ≤ l0_0.length ∧ v5 = .int .i64 i ∧ v4 = .bool m ∧ zab (rNodes l0_0 (l0_0.length - i) i s m = some st) ∧ zab (s.length = 64) ∧ zab (w'.heap[w.heap.size + 1]? = some (.cells (seenA s) 93 (0, 0))) ∧ zab (Below (zaz.W1 w A0_0 l0_0.length c0_0).heap.size (zaz.W1 w A0_0 l0_0.length c0_0) w')) (fun _ v5 _ => l0_0.length - (intOf v5).toNat)
     case atStart => exact ⟨0, _, _, Nat.zero_le _, rfl, rfl, HND, HSL, HG, HB⟩
     case round =>
      clear HND HSL HG HB hct
      obtain ⟨i, m, s, hi, rfl, rfl, HND, HSL, HG, HB⟩ := hrel
      have hct := zaz.zb8 HB.out
      have hmax : l0_0.length ≤ 9223372036854775807 := by have := HL.out; omega
      by_cases hlt : i < l0_0.length
      ·obtain ⟨d0, hd0⟩ : ∃ d0, l0_0.length - i = d0 + 1 := ⟨l0_0.length - i - 1, by omega⟩
       have hd1 : l0_0.length - (i + 1) = d0 := by omega
       have HNX : zab (∃ st1 : List Bool × Bool, (if rdOf false s (i : Int) = true then rNames l0_0 (zak l0_0 (i : Int)).f2 s m else some (s, m)) = some st1 ∧ rNodes l0_0 (l0_0.length - (i + 1)) (i + 1) st1.1 st1.2 = some st) := by
        have hd := HND.out
        rw [hd0, rNodes] at hd
        rw [hd1]
        by_cases hb : rdOf false s (i : Int) = true
        ·rw [if_pos hb] at hd ⊢
         exact ⟨Option.bind_eq_some_iff.mp hd⟩
        ·rw [if_neg hb] at hd ⊢
         exact ⟨⟨_, rfl, hd⟩⟩
       clear hd0 hd1 HND
       obtain ⟨st1, hst1, hrest⟩ := HNX.out
       have HN1 := zab.mk hst1
       have HRS := zab.mk hrest
       clear hst1 hrest HNX
       obtain ⟨na, A1, c1, A2, c2, rfl, hx0, hx1, hx2, hx3, hx4, hx5, hl1, hi1, hl2, hi2⟩ := zbl HR.out (i : Int) (by omega) (by omega)
       have HX2 := zab.mk hx2
       have HI2 := zab.mk hi2
       have HM2 := zab.mk hi2.2.1
       have h64 : i < 64 := by have := HL.out; omega
       clear hx0 hx1 hx2 hx3 hx4 hx5 hl1 hi1 hl2 hi2
       go_wp2
       go_loopw [4, 6] (fun v4 v6 w' => ∃ (j : Nat) (m1 : Bool) (s1 : List Bool), j ≤ (zak l0_0 i).f2.length ∧ v6 = .int .i64 j ∧ v4 = .bool m1 ∧ zab (rdOf false s1 (i : Int) = rdOf false s (i : Int)) ∧ zab ((if rdOf false s (i : Int) = true then rNames l0_0 ((zak l0_0 (i : Int)).f2.drop j) s1 m1 else some (s1, m1)) = some st1) ∧ zab (s1.length = 64) ∧ zab (w'.heap[w.heap.size + 1]? = some (.cells (seenA s1) 93 (0, 0))) ∧ zab (Below (zaz.W1 w (some na) l0_0.length c0_0).heap.size (zaz.W1 w (some na) l0_0.length c0_0) w')) (fun _ v6 _ => (zak l0_0 i).f2.length - (intOf v6).toNat)
       case atStart => exact ⟨0, _, _, Nat.zero_le _, rfl, rfl, ⟨rfl⟩, HN1, HSL, HG, HB⟩
       case round =>
        clear HN1 HSL HG HB hct
        obtain ⟨j, m1, s1, hj, rfl, rfl, HSI, HN1, HSL, HG, HB⟩ := hrel
        have hct := zaz.zb8 HB.out
        have hmax2 := HM2.out
        have hsi := (zaa HG.out i).trans (seenA_cell s1 (i : Int) (by omega) (by have := HSL.out; omega))
        rw [HSI.out] at hsi
        have hx2 := (HB.out.cell (World.block_lt_of_cell? _ _ HX2.out)).trans HX2.out
        rw [Int.toNat_natCast] at hx2
        cases hb : rdOf false s (i : Int) with
        | false =>
         have hd := HN1.out
         rw [hb, if_neg (by simp)] at hd
         obtain rfl := Option.some.inj hd
         rw [hb] at hsi
         clear hd hb
         go_wp2
         go_roundw
         case rel => exact ⟨i + 1, _, _, by omega, by go_num, rfl, HRS, HSL, HG, HB⟩
         case measure => simp [intOf]; omega
        | true =>
         have hd := HN1.out
         rw [hb, if_pos rfl] at hd
         rw [hb] at hsi
         have HSI1 : zab (rdOf false s1 (i : Int) = true) := ⟨HSI.out.trans hb⟩
         have HSB : zab (rdOf false s (i : Int) = true) := ⟨hb⟩
         clear hb HN1
         by_cases hlj : j < (zak l0_0 i).f2.length
         ·rw [rNames_drop l0_0 _ j hlj] at hd
          split at hd
          ·rename_i hc
           obtain ⟨hy0, hy1, hy2⟩ := hc
           obtain ⟨ad, rfl, hz0, hz1⟩ := zca HI2.out (j : Int) (by omega) (by omega)
           obtain ⟨nb, B1, d1, B2, d2, e2, hw0, hw1, hw2, hw3, hw4, hw5, hm1, ji1, hm2, ji2⟩ := zbl HR.out (zau (zak l0_0 i).f2 j).f1 hy0 hy1
           obtain rfl := Option.some.inj e2
           clear hz0 hw1 hw2 hw3 hw4 hw5 hm1 ji1 hm2 ji2 e2
           replace hz1 := (HB.out.cell (World.block_lt_of_cell? _ _ hz1)).trans hz1
           replace hw0 := (HB.out.cell (World.block_lt_of_cell? _ _ hw0)).trans hw0
           rw [Int.toNat_natCast] at hz1
           have hsx := (zaa HG.out (zau (zak l0_0 i).f2 j).f1.toNat).trans (seenA_cell s1 (zau (zak l0_0 i).f2 j).f1 hy0 (by have := HSL.out; omega))
           have HLT : zab ((zau (zak l0_0 i).f2 j).f1.toNat < s1.length) := ⟨by have := HSL.out; omega⟩
           have p0 := eq_true hy0
           have p1 := eq_true hy1
           have p2 := eq_true hy2
           by_cases ck : (zak l0_0 (zau (zak l0_0 i).f2 j).f1).f0 = 2
           ·have hk : ((zak l0_0 (zau (zak l0_0 i).f2 j).f1).f0 == 2) = true := by simpa using ck
            cases hsn : rdOf false s1 (zau (zak l0_0 i).f2 j).f1
            ·have hN : newDir l0_0 s1 (zau (zak l0_0 i).f2 j).f1 = true := by unfold newDir; rw [hk, hsn]; rfl
             rw [if_pos hN] at hd
             rw [hsn] at hsx
             have HD := zab.mk hd
             have hsf := zai HG.out (zau (zak l0_0 i).f2 j).f1.toNat
             have HG2 : zab ((wr.setCell ⟨w.heap.size + 1, (zau (zak l0_0 i).f2 j).f1.toNat, none⟩ (.bool true)).heap[w.heap.size + 1]? = some (.cells (seenA (s1.set (zau (zak l0_0 i).f2 j).f1.toNat true)) 93 (0, 0))) := ⟨by rw [← seenA_set]; exact blk_set HG.out _ _⟩
             have HB2 := zab.mk (HB.out.setCell (p := ⟨w.heap.size + 1, (zau (zak l0_0 i).f2 j).f1.toNat, none⟩) (by rw [zaz.W1_size]; exact Nat.le_refl _) (.bool true))
             clear ck hsn hN hd
             go_wp2
             go_roundw
             case rel => exact ⟨j + 1, true, _, by omega, by go_num, rfl, ⟨rdOf_set_self _ _ _ HSI1.out HLT.out⟩, HD, ⟨by rw [List.length_set]; exact HSL.out⟩, HG2, HB2⟩
             case measure => simp [intOf]; omega
            ·have hN : newDir l0_0 s1 (zau (zak l0_0 i).f2 j).f1 = false := by unfold newDir; rw [hk, hsn]; rfl
             rw [hN, if_neg (by simp)] at hd
             rw [hsn] at hsx
             have HD := zab.mk hd
             clear ck hsn hN hd
             go_wp2
             go_roundw
             case rel => exact ⟨j + 1, _, _, by omega, by go_num, rfl, HSI1, HD, HSL, HG, HB⟩
             case measure => simp [intOf]; omega
           ·have hk : ((zak l0_0 (zau (zak l0_0 i).f2 j).f1).f0 == 2) = false := by simpa using ck
            have hN : newDir l0_0 s1 (zau (zak l0_0 i).f2 j).f1 = false := by unfold newDir; rw [hk]; rfl
            rw [hN, if_neg (by simp)] at hd
            have HD := zab.mk hd
            clear ck hN hd hsx
            go_wp2
            go_roundw
            case rel => exact ⟨j + 1, _, _, by omega, by go_num, rfl, HSI1, HD, HSL, HG, HB⟩
            case measure => simp [intOf]; omega
          ·cases hd
         ·rw [List.drop_eq_nil_of_le (by omega), rNames] at hd
          obtain rfl := Option.some.inj hd
          clear hd
          go_wp2
          go_roundw
          case rel => exact ⟨i + 1, _, _, by omega, by go_num, rfl, HRS, HSL, HG, HB⟩
          case measure => simp [intOf]; omega
      ·have hd := HND.out
       rw [show l0_0.length - i = 0 by omega, rNodes] at hd
       obtain rfl := Option.some.inj hd
       clear hd
       go_wp2
       go_roundg k1
       case measure => have := HK.out; omega
       case rel => exact ⟨_, _, rfl, HRE, ⟨by have := HK.out; omega⟩, HSL, HG, HB⟩
 ·cases h
inductive Reach (l : List S40) : Nat → Prop
 | root : Reach l 0
 | step {n : Nat} {x : S50} (h : Reach l n) (hn : n < l.length) (hx : x ∈ (zak l (n : Int)).f2) (hd : (zak l x.f1).f0 = 2) : Reach l x.f1.toNat
def InRange (l : List S40) : Prop := ∀ n : Nat, n < l.length → ∀ x ∈ (zak l (n : Int)).f2, 0 ≤ x.f1 ∧ x.f1 < (l.length : Int)
def on (s : List Bool) (i : Nat) : Bool := s.getD i false
theorem on_set (s : List Bool) (i j : Nat) (h : i < s.length) : on (s.set i true) j = if i = j then true else on s j := by
 unfold on
 rw [List.getD_eq_getElem?_getD, List.getD_eq_getElem?_getD, List.getElem?_set]
 by_cases e : i = j
 ·subst e; simp [h]
 ·simp [e]
theorem on_replicate (n i : Nat) : on (List.replicate n false) i = false := by
 unfold on
 rw [List.getD_eq_getElem?_getD, List.getElem?_replicate]
 split <;> rfl
def falses (s : List Bool) : Nat := s.count false
theorem falses_set : ∀ (s : List Bool) (i : Nat), i < s.length → on s i = false → falses (s.set i true) + 1 = falses s
 | [], i, h, _ => by simp at h
 | b :: s, 0, _, h => by
  have : b = false := by simpa [on] using h
  subst this; simp [falses]
 | b :: s, i + 1, h, h' => by
  have := falses_set s i (by simpa using h) (by simpa [on] using h')
  unfold falses at this ⊢
  rw [List.set_cons_succ, List.count_cons, List.count_cons]
  omega
theorem falses_le (s : List Bool) : falses s ≤ s.length := List.count_le_length
theorem newDir_spec (l : List S40) (s : List Bool) (x : Int) : newDir l s x = true ↔ (zak l x).f0 = 2 ∧ on s x.toNat = false := by
 unfold newDir; show (_ && !(on s x.toNat)) = true ↔ _; simp
theorem meets_ok (l : List S40) : ∀ (ns : List S50) (s : List Bool) (q : List Int), s.length = l.length → (∀ x ∈ ns, 0 ≤ x.f1 ∧ x.f1 < (l.length : Int)) → falses s + q.length < 17592186044416 →
  ∃ s' q', meets l ns (s, q) = some (s', q') ∧ s'.length = l.length ∧ falses s' + q'.length = falses s + q.length ∧ (∀ i, on s i = true → on s' i = true) ∧ (∀ i, on s' i = true → on s i = true ∨ ((i : Int) ∈ q' ∧ ∃ x ∈ ns, x.f1.toNat = i ∧ (zak l x.f1).f0 = 2)) ∧ (∀ n ∈ q, n ∈ q') ∧ (∀ n ∈ q', n ∈ q ∨ (0 ≤ n ∧ n < (l.length : Int) ∧ on s' n.toNat = true)) ∧ (∀ x ∈ ns, (zak l x.f1).f0 = 2 → on s' x.f1.toNat = true)
 | [], s, q, hs, _, _ => ⟨s, q, rfl, hs, rfl, fun _ h => h, fun _ h => .inl h, fun _ h => h, fun _ h => .inl h, by simp⟩
 | x :: r, s, q, hs, hr, hm => by
  have h1 := hr x (List.mem_cons_self ..)
  have hr' : ∀ y ∈ r, 0 ≤ y.f1 ∧ y.f1 < (l.length : Int) := fun y hy => hr y (List.mem_cons_of_mem _ hy)
  have hlt : x.f1.toNat < s.length := by omega
  by_cases hnew : newDir l s x.f1 = true
  ·obtain ⟨hk, h0⟩ := (newDir_spec l s x.f1).1 hnew
   have hF := falses_set s x.f1.toNat hlt h0
   have hon := fun j => on_set s x.f1.toNat j hlt
   obtain ⟨s', q', e, hl', hf', hmono, hnew', hq, hq', hall⟩ := meets_ok l r (s.set x.f1.toNat true) (q ++ [x.f1]) (by simpa using hs) hr' (by simp; omega)
   refine ⟨s', q', ?_, hl', by simp at hf'; omega, fun i hi => hmono i (by rw [hon]; split <;> simp_all), fun i hi => ?_, fun n hn => hq n (by simp [hn]), fun n hn => ?_, fun y hy hky => ?_⟩
   ·rw [meets, if_pos ⟨h1.1, h1.2, by show q.length < _; omega⟩]
    have : meetF l (s, q) x.f1 = (s.set x.f1.toNat true, q ++ [x.f1]) := by unfold meetF; rw [if_pos hnew]
    rw [this]; exact e
   ·rcases hnew' i hi with h | ⟨h, y, hy, h2, h3⟩
    ·rw [hon] at h
     by_cases e2 : x.f1.toNat = i
     ·refine .inr ⟨hq _ ?_, x, List.mem_cons_self .., e2, hk⟩
      have : (i : Int) = x.f1 := by omega
      rw [this]; simp
     ·rw [if_neg e2] at h; exact .inl h
    ·exact .inr ⟨h, y, List.mem_cons_of_mem _ hy, h2, h3⟩
   ·rcases hq' n hn with h | h
    ·rcases List.mem_append.1 h with h | h
     ·exact .inl h
     ·obtain rfl : n = x.f1 := by simpa using h
      exact .inr ⟨h1.1, h1.2, hmono _ (by rw [hon]; simp)⟩
    ·exact .inr h
   ·rcases List.mem_cons.1 hy with rfl | hy
    ·exact hmono _ (by rw [hon]; simp)
    ·exact hall y hy hky
  ·obtain ⟨s', q', e, hl', hf', hmono, hnew', hq, hq', hall⟩ := meets_ok l r s q hs hr' hm
   refine ⟨s', q', ?_, hl', hf', hmono, fun i hi => ?_, hq, hq', fun y hy hky => ?_⟩
   ·rw [meets, if_pos ⟨h1.1, h1.2, by show q.length < _; omega⟩]
    have : meetF l (s, q) x.f1 = (s, q) := by unfold meetF; rw [if_neg hnew]
    rw [this]; exact e
   ·rcases hnew' i hi with h | ⟨h, y, hy, h2, h3⟩
    ·exact .inl h
    ·exact .inr ⟨h, y, List.mem_cons_of_mem _ hy, h2, h3⟩
   ·rcases List.mem_cons.1 hy with rfl | hy
    ·refine hmono _ ?_
     cases hc : on s y.f1.toNat
     ·exact absurd ((newDir_spec l s y.f1).2 ⟨hky, hc⟩) hnew
     ·rfl
    ·exact hall y hy hky
def Closed (l : List S40) (s : List Bool) : Prop := ∀ i, i < l.length → on s i = true → ∀ x ∈ (zak l (i : Int)).f2, (zak l x.f1).f0 = 2 → on s x.f1.toNat = true
theorem closed_reach {l : List S40} {s : List Bool} (h0 : on s 0 = true) (hc : Closed l s) (hs : ∀ i, on s i = true → Reach l i) (i : Nat) : on s i = true ↔ Reach l i := by
 refine ⟨hs i, fun h => ?_⟩
 induction h with
 | root => exact h0
 | step h hn hx hd ih => exact hc _ hn ih _ hx hd
theorem reachF_ok (l : List S40) (hr : InRange l) : ∀ (d : Nat) (s : List Bool) (q : List Int), d < 17592186044416 → falses s + q.length ≤ d → s.length = l.length → (∀ i, on s i = true → Reach l i) → (∀ n ∈ q, 0 ≤ n ∧ n < (l.length : Int) ∧ on s n.toNat = true) → on s 0 = true →
  (∀ i, i < l.length → on s i = true → (i : Int) ∈ q ∨ ∀ x ∈ (zak l (i : Int)).f2, (zak l x.f1).f0 = 2 → on s x.f1.toNat = true) →
  ∃ R, reachF (d + 1) l s q = some R ∧ R.length = l.length ∧ ∀ i, on R i = true ↔ Reach l i
 | d, s, [], _, _, hs, hsnd, _, h0, hcl => ⟨s, by rw [reachF], hs, closed_reach h0 (fun i hi h => (hcl i hi h).resolve_left (by simp)) hsnd⟩
 | 0, s, n :: q, _, hd, _, _, _, _, _ => by simp at hd
 | d + 1, s, n :: q, hM, hd, hs, hsnd, hq, h0, hcl => by
  obtain ⟨hn0, hn1, hn2⟩ := hq n (List.mem_cons_self ..)
  obtain ⟨m, rfl⟩ : ∃ m : Nat, n = (m : Int) := ⟨n.toNat, by omega⟩
  have hm : m < l.length := by omega
  obtain ⟨s', q', e, hl', hf', hmono, hnew', hqs, hq', hall⟩ := meets_ok l (zak l (m : Int)).f2 s q hs (hr m hm) (by simp at hd; omega)
  have z1 : ∀ i, on s' i = true → Reach l i := by
   intro i hi
   rcases hnew' i hi with h | ⟨h, y, hy, h2, h3⟩
   ·exact hsnd i h
   ·rw [← h2]; exact Reach.step (hsnd m hn2) hm hy h3
  have z2 : ∀ n ∈ q', 0 ≤ n ∧ n < (l.length : Int) ∧ on s' n.toNat = true := by
   intro n hn
   rcases hq' n hn with h | h
   ·obtain ⟨a, b, c⟩ := hq n (List.mem_cons_of_mem _ h)
    exact ⟨a, b, hmono _ c⟩
   ·exact h
  have z3 : ∀ i, i < l.length → on s' i = true → (i : Int) ∈ q' ∨ ∀ x ∈ (zak l (i : Int)).f2, (zak l x.f1).f0 = 2 → on s' x.f1.toNat = true := by
   intro i hi h
   rcases hnew' i h with h | ⟨h, _⟩
   ·rcases hcl i hi h with h | h
    ·rcases List.mem_cons.1 h with h | h
     ·have : i = m := by omega
      subst this; exact .inr hall
     ·exact .inl (hqs _ h)
    ·exact .inr fun x hx hk => hmono _ (h x hx hk)
   ·exact .inl h
  obtain ⟨R, hR, hR2⟩ := reachF_ok l hr d s' q' (by omega) (by simp at hd; omega) hl' z1 z2 (hmono _ h0) z3
  refine ⟨R, ?_, hR2⟩
  rw [reachF]
  show (if _ then _ else _) = _
  rw [if_pos ⟨hn0, hn1⟩, e]; exact hR
theorem reached_tree (l : List S40) (h0 : 0 < l.length) (hl : l.length ≤ 64) (hk : (zak l 0).f0 = 2) (hr : InRange l) :
  ∃ R, zaF.f 66 l = some R ∧ R.length = l.length ∧ ∀ i, on R i = true ↔ Reach l i := by
 unfold zaF.f
 rw [if_pos h0, if_pos (by omega)]
 have hm : meetF l (List.replicate l.length false, []) 0 = ((List.replicate l.length false).set 0 true, [0]) := by
  unfold meetF; rw [if_pos ((newDir_spec l _ 0).2 ⟨hk, on_replicate _ _⟩)]; rfl
 rw [hm]
 have hon := fun j => on_set (List.replicate l.length false) 0 j (by simpa using h0)
 have hf := falses_set (List.replicate l.length false) 0 (by simpa using h0) (on_replicate _ _)
 have hfl := falses_le (List.replicate l.length false)
 rw [List.length_replicate] at hfl
 refine reachF_ok l hr 65 _ _ (by omega) (by simp; omega) (by simp) (fun i hi => ?_) (fun n hn => ?_) (by rw [hon]; rfl) (fun i _ hi => ?_)
 ·rw [hon, on_replicate] at hi
  by_cases e : 0 = i
  ·subst e; exact .root
  ·rw [if_neg e] at hi; cases hi
 ·obtain rfl : n = 0 := by simpa using hn
  exact ⟨by omega, by omega, by rw [hon]; rfl⟩
 ·rw [hon, on_replicate] at hi
  by_cases e : 0 = i
  ·subst e; exact .inl (by simp)
  ·rw [if_neg e] at hi; cases hi
theorem rNames_ok (l : List S40) (hl : l.length ≤ 64) : ∀ (ns : List S50) (s : List Bool) (m : Bool), s.length = 64 → (∀ x ∈ ns, 0 ≤ x.f1 ∧ x.f1 < (l.length : Int)) →
  ∃ s' m', rNames l ns s m = some (s', m') ∧ s'.length = 64 ∧ (∀ i, on s i = true → on s' i = true) ∧ (∀ i, on s' i = true → on s i = true ∨ ∃ x ∈ ns, x.f1.toNat = i ∧ (zak l x.f1).f0 = 2) ∧ (∀ x ∈ ns, (zak l x.f1).f0 = 2 → on s' x.f1.toNat = true) ∧ ((m' = m ∧ s' = s) ∨ (m' = true ∧ falses s' < falses s))
 | [], s, m, hs, _ => ⟨s, m, rfl, hs, fun _ h => h, fun _ h => .inl h, by simp, .inl ⟨rfl, rfl⟩⟩
 | x :: r, s, m, hs, hr => by
  have h1 := hr x (List.mem_cons_self ..)
  have hr' : ∀ y ∈ r, 0 ≤ y.f1 ∧ y.f1 < (l.length : Int) := fun y hy => hr y (List.mem_cons_of_mem _ hy)
  have hlt : x.f1.toNat < s.length := by omega
  by_cases hnew : newDir l s x.f1 = true
  ·obtain ⟨hk, h0⟩ := (newDir_spec l s x.f1).1 hnew
   have hF := falses_set s x.f1.toNat hlt h0
   have hon := fun j => on_set s x.f1.toNat j hlt
   obtain ⟨s', m', e, hl', hmono, hnew', hall, hch⟩ := rNames_ok l hl r (s.set x.f1.toNat true) true (by simpa using hs) hr'
   refine ⟨s', m', ?_, hl', fun i hi => hmono i (by rw [hon]; split <;> simp_all), fun i hi => ?_, fun y hy hky => ?_, .inr ?_⟩
   ·rw [rNames, if_pos ⟨h1.1, h1.2, by omega⟩, if_pos hnew]; exact e
   ·rcases hnew' i hi with h | ⟨y, hy, h2, h3⟩
    ·rw [hon] at h
     by_cases e2 : x.f1.toNat = i
     ·exact .inr ⟨x, List.mem_cons_self .., e2, hk⟩
     ·rw [if_neg e2] at h; exact .inl h
    ·exact .inr ⟨y, List.mem_cons_of_mem _ hy, h2, h3⟩
   ·rcases List.mem_cons.1 hy with rfl | hy
    ·exact hmono _ (by rw [hon]; simp)
    ·exact hall y hy hky
   ·rcases hch with ⟨rfl, rfl⟩ | ⟨rfl, h⟩
    ·exact ⟨rfl, by omega⟩
    ·exact ⟨rfl, by omega⟩
  ·obtain ⟨s', m', e, hl', hmono, hnew', hall, hch⟩ := rNames_ok l hl r s m hs hr'
   refine ⟨s', m', ?_, hl', hmono, fun i hi => ?_, fun y hy hky => ?_, hch⟩
   ·rw [rNames, if_pos ⟨h1.1, h1.2, by omega⟩, if_neg hnew]; exact e
   ·rcases hnew' i hi with h | ⟨y, hy, h2, h3⟩
    ·exact .inl h
    ·exact .inr ⟨y, List.mem_cons_of_mem _ hy, h2, h3⟩
   ·rcases List.mem_cons.1 hy with rfl | hy
    ·refine hmono _ ?_
     cases hc : on s y.f1.toNat
     ·exact absurd ((newDir_spec l s y.f1).2 ⟨hky, hc⟩) hnew
     ·rfl
    ·exact hall y hy hky
theorem rNodes_ok (l : List S40) (hl : l.length ≤ 64) (hr : InRange l) : ∀ (d i : Nat) (s : List Bool) (m : Bool), i + d = l.length → s.length = 64 → (∀ i, on s i = true → Reach l i) →
  ∃ s' m', rNodes l d i s m = some (s', m') ∧ s'.length = 64 ∧ (∀ i, on s i = true → on s' i = true) ∧ (∀ i, on s' i = true → Reach l i) ∧
   ((m' = m ∧ s' = s ∧ ∀ j, i ≤ j → j < l.length → on s j = true → ∀ x ∈ (zak l (j : Int)).f2, (zak l x.f1).f0 = 2 → on s x.f1.toNat = true) ∨ (m' = true ∧ falses s' < falses s))
 | 0, i, s, m, hi, hs, hsnd => ⟨s, m, rfl, hs, fun _ h => h, hsnd, .inl ⟨rfl, rfl, fun j h1 h2 => by omega⟩⟩
 | d + 1, i, s, m, hi, hs, hsnd => by
  cases hc : on s i with
  | false =>
   obtain ⟨s', m', e, hl', hmono, hsnd', hch⟩ := rNodes_ok l hl hr d (i + 1) s m (by omega) hs hsnd
   refine ⟨s', m', ?_, hl', hmono, hsnd', ?_⟩
   ·rw [rNodes]
    have hc' : rdOf false s (i : Int) = false := hc
    rw [hc', if_neg (by simp)]; exact e
   ·rcases hch with ⟨rfl, rfl, h⟩ | h
    ·refine .inl ⟨rfl, rfl, fun j h1 h2 h3 => ?_⟩
     by_cases e2 : j = i
     ·subst e2; rw [hc] at h3; cases h3
     ·exact h j (by omega) h2 h3
    ·exact .inr h
  | true =>
   have hi' : i < l.length := by omega
   obtain ⟨s1, m1, e1, hl1, hmono1, hnew1, hall1, hch1⟩ := rNames_ok l hl (zak l (i : Int)).f2 s m hs (hr i hi')
   have hsnd1 : ∀ j, on s1 j = true → Reach l j := fun j hj => by
    rcases hnew1 j hj with h | ⟨y, hy, h2, h3⟩
    ·exact hsnd j h
    ·rw [← h2]; exact Reach.step (hsnd i hc) hi' hy h3
   obtain ⟨s', m', e, hl', hmono, hsnd', hch⟩ := rNodes_ok l hl hr d (i + 1) s1 m1 (by omega) hl1 hsnd1
   refine ⟨s', m', ?_, hl', fun j hj => hmono j (hmono1 j hj), hsnd', ?_⟩
   ·rw [rNodes]
    have hc' : rdOf false s (i : Int) = true := hc
    rw [hc', if_pos rfl, e1]; exact e
   ·rcases hch1 with ⟨rfl, rfl⟩ | ⟨rfl, h1⟩
    ·rcases hch with ⟨rfl, rfl, h⟩ | h
     ·refine .inl ⟨rfl, rfl, fun j h1 h2 h3 => ?_⟩
      by_cases e2 : j = i
      ·subst e2; exact hall1
      ·exact h j (by omega) h2 h3
     ·exact .inr h
    ·rcases hch with ⟨rfl, rfl, h⟩ | ⟨h, h2⟩
     ·exact .inr ⟨rfl, h1⟩
     ·exact .inr ⟨h, by omega⟩
theorem rLoop_ok (l : List S40) (hl : l.length ≤ 64) (hr : InRange l) : ∀ (d : Nat) (s : List Bool), falses s ≤ d → s.length = 64 → (∀ i, on s i = true → Reach l i) → on s 0 = true →
  ∃ R, rLoop l (d + 2) s true = some R ∧ ∀ i, on R i = true ↔ Reach l i
 | d, s, hd, hs, hsnd, h0 => by
  obtain ⟨s', m', e, hl', hmono, hsnd', hch⟩ := rNodes_ok l hl hr l.length 0 s false (by omega) hs hsnd
  rcases hch with ⟨rfl, rfl, h⟩ | ⟨rfl, h⟩
  ·refine ⟨s', ?_, closed_reach h0 (fun i hi hon => h i (Nat.zero_le _) hi hon) hsnd'⟩
   rw [rLoop, if_pos rfl, e, Option.bind_some, rLoop, if_neg (by simp)]
  ·obtain ⟨d, rfl⟩ : ∃ d', d = d' + 1 := ⟨d - 1, by omega⟩
   obtain ⟨R, hR, hR2⟩ := rLoop_ok l hl hr d s' (by omega) hl' hsnd' (hmono _ h0)
   refine ⟨R, ?_, hR2⟩
   rw [rLoop, if_pos rfl, e, Option.bind_some]; exact hR
theorem seen_start : ∀ i, on ((List.replicate 64 false).set 0 true) i = true → i = 0 := fun i hi => by
 rw [on_set _ _ _ (by simp), on_replicate] at hi
 by_cases e : 0 = i
 ·exact e.symm
 ·rw [if_neg e] at hi; cases hi
theorem reached_page (l : List S40) (hl : l.length ≤ 64) (hr : InRange l) :
  ∃ R, rLoop l 66 ((List.replicate 64 false).set 0 true) true = some R ∧ ∀ i, on R i = true ↔ Reach l i := by
 refine rLoop_ok l hl hr 64 _ ?_ (by simp) (fun i hi => by rw [seen_start i hi]; exact .root) (by rw [on_set _ _ _ (by simp)]; rfl)
 have := falses_le ((List.replicate 64 false).set 0 true)
 simpa using this
def cNames (l : List S40) : List S50 → List Int → Option (List Int)
 | [], c => some c
 | x :: r, c => if x.f1 < 1 then none else if (l.length : Int) ≤ x.f1 then none else if (zak l x.f1).f0 = 0 then none else cNames l r (c.set x.f1.toNat (wrap64 (rd c x.f1 + 1)))
theorem cNames_drop (l : List S40) (ns : List S50) (i : Nat) (h : i < ns.length) (c : List Int) : cNames l (ns.drop i) c = if (zau ns i).f1 < 1 then none else if (l.length : Int) ≤ (zau ns i).f1 then none else if (zak l (zau ns i).f1).f0 = 0 then none else cNames l (ns.drop (i + 1)) (c.set (zau ns i).f1.toNat (wrap64 (rd c (zau ns i).f1 + 1))) := by
 rw [List.drop_eq_getElem_cons h]
 have e : zau ns (i : Int) = ns[i] := by simp [zau, List.getD, List.getElem?_eq_getElem h]
 rw [cNames, e]
def rnode (k : Nat) (x : S40) : Option Bool := zao.f k x.f0 x.f1 x.f2 x.f3 x.f4 x.f5
def cNodes (l : List S40) (k : Nat) : Nat → Nat → List Int → Option (Option (List Int))
 | 0, _, c => some (some c)
 | d + 1, i, c => (rnode k (zak l (i : Int))).bind fun b => if b = true then (match cNames l (zak l (i : Int)).f2 c with | none => some none | some c' => cNodes l k d (i + 1) c') else some none
def badR (l : List S40) (c : List Int) (i : Nat) : Bool :=
 ((zak l (i : Int)).f0 != 0 && (zak l (i : Int)).f4 != rd c (i : Int)) || ((zak l (i : Int)).f0 == 2 && (decide (1 < (zak l (i : Int)).f4) || ((zak l (i : Int)).f4 == 0 && decide (0 < (zak l (i : Int)).f2.length))))
def goodR (l : List S40) (c : List Int) (n : Nat) : Bool := (List.range n).all fun i => !badR l c i
theorem goodR_succ (l : List S40) (c : List Int) (n : Nat) : goodR l c (n + 1) = (goodR l c n && !badR l c n) := by
 unfold goodR; rw [List.range_succ, List.all_append]; simp
theorem goodR_false {l : List S40} {c : List Int} {i n : Nat} (hi : i < n) (h : badR l c i = true) : goodR l c n = false := by
 unfold goodR; rw [List.all_eq_false]; exact ⟨i, List.mem_range.2 hi, by simp [h]⟩
def mayE (l : List S40) (k : Nat) : Option (List Int) → Option Bool
 | none => some false
 | some c => if goodR l c l.length = true then zaz.f k l else some false
def zar.f (k : Nat) (l0_0 : List S40) : Option Bool := if zbX l0_0 = true then (cNodes l0_0 k l0_0.length 0 ((List.replicate 64 0).set 0 1)).bind fun o => mayE l0_0 k o else some false
def cntA (c : List Int) : Array Value := (c.map (Value.int .i64)).toArray
theorem cntA_cell (c : List Int) (i : Int) (h0 : 0 ≤ i) (h1 : i < (c.length : Int)) : (cntA c)[i.toNat]? = some (.int .i64 (rd c i)) := by
 have hh : i.toNat < c.length := by omega
 simp [cntA, rd, List.getElem?_map, List.getElem?_eq_getElem hh, List.getD_eq_getElem?_getD]
theorem cntA_set (c : List Int) (i : Nat) (x : Int) : (cntA c).setIfInBounds i (.int .i64 x) = cntA (c.set i x) := by
 apply Array.ext'
 simp [cntA, List.map_set]
theorem head_yes {l : List S40} (h1 : 0 < l.length) (h2 : l.length ≤ 64) (h3 : ¬ (1 < l.length ∧ (zak l ((l.length : Int) - 1)).f0 = 0)) (h4 : (zak l 0).f0 = 2) (h5 : (zak l 0).f4 = 1) : zbX l = true := by
 have e : (decide (1 < l.length) && (zak l ((l.length : Int) - 1)).f0 == 0) = false := by
  rw [Bool.eq_false_iff]; intro h; rw [Bool.and_eq_true] at h; exact h3 ⟨of_decide_eq_true h.1, beq_iff_eq.1 h.2⟩
 unfold zbX; rw [e, decide_eq_true h1, decide_eq_true h2, h4, h5]; rfl
def zar.W1 (w : World) (A : Option Addr) (n c : Nat) : World := w.alloc (.cells #[.slice A n c] 24)
theorem zar.zbk (w : World) (A : Option Addr) (n c : Nat) : Below w.heap.size w (zar.W1 w A n c) := zad (Below.refl _ _) _
theorem zar.W1_size (w : World) (A : Option Addr) (n c : Nat) : (zar.W1 w A n c).heap.size = w.heap.size + 1 := World.size_alloc _ _
theorem zar.zb8 {w w' : World} {A : Option Addr} {n c : Nat} (h : Below (zar.W1 w A n c).heap.size (zar.W1 w A n c) w') : w'.cell? ⟨w.heap.size, 0, none⟩ = some (.slice A n c) :=
 (zaa ((h.block w.heap.size (by show _ < (w.alloc _).heap.size; simp)).trans (zbd w _)) 0).trans rfl
set_option maxHeartbeats 8000000 in
set_option maxRecDepth 100000 in
theorem zar.calls (k : Nat) (A0_0 : Option Addr) (c0_0 : Nat) (l0_0 : List S40) (r : Bool) (w : World) (hr0_0 : Kd.C k40 w A0_0 l0_0.length l0_0) (hc0_0 : l0_0.length ≤ c0_0) (h : zar.f k l0_0 = some r) :
  Calls Tryz.prog 14 #[.agg #[.slice A0_0 l0_0.length c0_0]] w fun e w' => e = .returned (.bool r) ∧ Below w.heap.size w w' := by
 unfold zar.f at h
 have HR := zab.mk (Kd.C_below hr0_0 (zar.zbk w A0_0 l0_0.length c0_0))
 have HC := zab.mk hc0_0
 have hut := Tryz.underlying24
 have hun := Tryz.underlying40
 have HSZ := zab.mk (zar.W1_size w A0_0 l0_0.length c0_0)
 clear hr0_0 hc0_0
 by_cases c1 : 0 < l0_0.length
 ·have n1 : decide ((l0_0.length : Int) < 1) = false := decide_eq_false (by omega)
  have n1b : decide (l0_0.length < 1) = false := decide_eq_false (by omega)
  by_cases c2 : l0_0.length ≤ 64
  ·have n2 : decide ((64 : Int) < (l0_0.length : Int)) = false := decide_eq_false (by omega)
   have n2b : decide (64 < l0_0.length) = false := decide_eq_false (by omega)
   obtain ⟨ad, B1, d1, B2, d2, rfl, hx0, hx1, hx2, hx3, hx4, hx5, _, _, _, _⟩ := zbl HR.out 0 (by omega) (by omega)
   replace hx0 : (zar.W1 w (some ad) l0_0.length c0_0).cell? ad = some (.int .i64 (zak l0_0 0).f0) := by rw [← hx0]; congr 1
   replace hx4 : (zar.W1 w (some ad) l0_0.length c0_0).cell? ⟨ad.block, ad.off + 4, none⟩ = some (.int .i64 (zak l0_0 0).f4) := by rw [← hx4]; congr 1
   unfold zar.W1 at hx0 hx4
   have hpos : 0 < l0_0.length := c1
   have hmax : l0_0.length ≤ 9223372036854775807 := by omega
   clear hx1 hx2 hx3 hx5
   have HC1 := zab.mk c1
   have HC2 := zab.mk c2
   clear c1 c2
   by_cases c5 : (zak l0_0 0).f0 = 2
   ·have n5 : ((zak l0_0 0).f0 != 2) = false := by simpa using c5
    by_cases c6 : (zak l0_0 0).f4 = 1
    ·have n6 : ((zak l0_0 0).f4 != 1) = false := by simpa using c6
     by_cases c7 : 1 < l0_0.length ∧ (zak l0_0 ((l0_0.length : Int) - 1)).f0 = 0
     ·obtain ⟨c3, c4⟩ := c7
      have n3 : decide ((1 : Int) < (l0_0.length : Int)) = true := decide_eq_true (by omega)
      have n3b : decide (1 < l0_0.length) = true := decide_eq_true (by omega)
      obtain ⟨ad3, B3, d3, B4, d4, e3, hz0, hz1, hz2, hz3, hz4, hz5, _, _, _, _⟩ := zbl HR.out ((l0_0.length : Int) - 1) (by omega) (by omega)
      cases e3
      rw [show ((l0_0.length : Int) - 1).toNat = l0_0.length - 1 by omega] at hz0
      have hp3 : 1 ≤ l0_0.length := by omega
      unfold zar.W1 at hz0
      have n4 : ((zak l0_0 ((l0_0.length : Int) - 1)).f0 == 0) = true := by simpa using c4
      have HF : zab (zbX l0_0 = false) := ⟨by unfold zbX; simp [c3, c4]⟩
      clear hz1 hz2 hz3 hz4 hz5 c3 c4 c5 c6
      rw [HF.out] at h
      have HH := zab.mk (Option.some.inj h)
      clear h
      go_enter Tryz.func14, Tryz.ntmps14
      go_wp2
      go_ret
      exact ⟨by rw [← HH.out]; rfl, zar.zbk _ _ _ _⟩
     ·have HEAD : zab (zbX l0_0 = true) := ⟨head_yes HC1.out HC2.out c7 c5 c6⟩
      have HC7 := zab.mk c7
      rw [if_pos HEAD.out] at h
      obtain ⟨O, hO, hE⟩ := Option.bind_eq_some_iff.mp h
      have HH := zab.mk hO
      have HRES := zab.mk hE
      clear h hO hE c5 c6 c7
      go_enter Tryz.func14, Tryz.ntmps14
      go_upto_region 3 with (fail)
      go_cut [50] (fun v50 wc => v50 = .bool false ∧ wc = w.alloc (.cells #[.slice (some ad) l0_0.length c0_0] 24))
      case first =>
       clear HRES HH HEAD hx0 hx4
       by_cases c3 : 1 < l0_0.length
       ·have n3 : decide ((1 : Int) < (l0_0.length : Int)) = true := decide_eq_true (by omega)
        have n3b : decide (1 < l0_0.length) = true := decide_eq_true (by omega)
        obtain ⟨ad3, B3, d3, B4, d4, e3, hz0, hz1, hz2, hz3, hz4, hz5, _, _, _, _⟩ := zbl HR.out ((l0_0.length : Int) - 1) (by omega) (by omega)
        cases e3
        rw [show ((l0_0.length : Int) - 1).toNat = l0_0.length - 1 by omega] at hz0
        have hp3 : 1 ≤ l0_0.length := by omega
        unfold zar.W1 at hz0
        have n4 : ((zak l0_0 ((l0_0.length : Int) - 1)).f0 == 0) = false := beq_eq_false_iff_ne.2 (fun e => HC7.out ⟨c3, e⟩)
        clear hz1 hz2 hz3 hz4 hz5 c3
        go_wp2
        go_meet
        case rel => exact ⟨rfl, rfl⟩
       ·have n3 : decide ((1 : Int) < (l0_0.length : Int)) = false := decide_eq_false (by omega)
        have n3b : decide (1 < l0_0.length) = false := decide_eq_false (by omega)
        clear c3
        go_wp2
        go_meet
        case rel => exact ⟨rfl, rfl⟩
      case rest =>
       obtain ⟨rfl, rfl⟩ := hcut
       clear hx0 hx4
       have hct := zar.zb8 (Below.refl (zar.W1 w (some ad) l0_0.length c0_0).heap.size (zar.W1 w (some ad) l0_0.length c0_0))
       go_wp2
       go_loopw [4] (fun v4 w' => ∃ (i : Nat) (c : List Int), i ≤ l0_0.length ∧ v4 = .int .i64 i ∧ zab (cNodes l0_0 k (l0_0.length - i) i c = some O) ∧ zab (c.length = 64) ∧ zab (w'.heap[w.heap.size + 1]? = some (.cells (cntA c) 47 (0, 0))) ∧ zab (Below (zar.W1 w (some ad) l0_0.length c0_0).heap.size (zar.W1 w (some ad) l0_0.length c0_0) w')) (fun v4 _ => l0_0.length - (intOf v4).toNat)
       case atStart =>
        exact ⟨0, _, Nat.zero_le _, rfl, HH, ⟨by kernel_rfl⟩, ⟨by have := zbd (zar.W1 w (some ad) l0_0.length c0_0) (.cells (cntA ((List.replicate 64 0).set 0 1)) 47); rw [HSZ.out] at this; exact this⟩, ⟨zad (Below.refl _ _) _⟩⟩
       case round =>
        clear HH hct
        obtain ⟨i, c, hi, rfl, HND, HCL, HG, HB⟩ := hrel
        have hct := zar.zb8 HB.out
        have hmax : l0_0.length ≤ 9223372036854775807 := by have := HC2.out; omega
        by_cases hlt : i < l0_0.length
        ·obtain ⟨d0, hd0⟩ : ∃ d0, l0_0.length - i = d0 + 1 := ⟨l0_0.length - i - 1, by omega⟩
         have hd1 : l0_0.length - (i + 1) = d0 := by omega
         have hd := HND.out
         rw [hd0, cNodes] at hd
         obtain ⟨b, hb, hd⟩ := Option.bind_eq_some_iff.mp hd
         rw [← hd1] at hd
         have HD := zab.mk hd
         have HND1 := zab.mk (show zao.f k (zak l0_0 (i : Int)).f0 (zak l0_0 (i : Int)).f1 (zak l0_0 (i : Int)).f2 (zak l0_0 (i : Int)).f3 (zak l0_0 (i : Int)).f4 (zak l0_0 (i : Int)).f5 = some b from hb)
         clear hd0 hd1 hd hb HND
         obtain ⟨na, A1, e1, A2, e2, ee, hx0, hx1, hx2, hx3, hx4, hx5, hl1, hi1, hl2, hi2⟩ := zbl HR.out (i : Int) (by omega) (by omega)
         obtain rfl := Option.some.inj ee
         replace hx0 := (HB.out.cell (World.block_lt_of_cell? _ _ hx0)).trans hx0
         replace hx1 := (HB.out.cell (World.block_lt_of_cell? _ _ hx1)).trans hx1
         have HX2 := zab.mk hx2
         replace hx2 := (HB.out.cell (World.block_lt_of_cell? _ _ hx2)).trans hx2
         replace hx3 := (HB.out.cell (World.block_lt_of_cell? _ _ hx3)).trans hx3
         replace hx4 := (HB.out.cell (World.block_lt_of_cell? _ _ hx4)).trans hx4
         replace hx5 := (HB.out.cell (World.block_lt_of_cell? _ _ hx5)).trans hx5
         rw [Int.toNat_natCast] at hx0 hx1 hx2 hx3 hx4 hx5
         have HI1 := zab.mk hi1
         have HI2 := zab.mk hi2
         have HLL := zab.mk (show _ ∧ _ from ⟨hl1, hl2⟩)
         have HM2 := zab.mk hi2.2.1
         clear hl1 hi1 hl2 hi2 ee
         cases b with
         | false =>
          obtain rfl := Option.some.inj (show some none = some O from HD.out)
          clear HD
          have HRR := zab.mk (Option.some.inj (show some false = some r from HRES.out))
          go_wp2_with (first | (go_at_call 23; refine (zao.calls k _ A1 e1 _ A2 e2 _ _ _ _ false _ (Kd.C_below HI1.out HB.out) HLL.out.1 (Kd.C_below HI2.out HB.out) HLL.out.2 HND1.out).mono ?_; rintro e w1 ⟨rfl, hb⟩; have HB1 := zab.mk (zan HB.out hb); clear hb))
          go_ret
          exact ⟨by rw [← HRR.out]; rfl, zan (zar.zbk _ _ _ _) HB1.out⟩
         | true =>
          have hd := HD.out
          rw [if_pos rfl] at hd
          have HD2 := zab.mk hd
          clear hd HD
          go_wp2_with (first | (go_at_call 23; refine (zao.calls k _ A1 e1 _ A2 e2 _ _ _ _ true _ (Kd.C_below HI1.out HB.out) HLL.out.1 (Kd.C_below HI2.out HB.out) HLL.out.2 HND1.out).mono ?_; rintro e w1 ⟨rfl, hb⟩; have HB1 := zab.mk (zan HB.out hb); have HG1 := zab.mk (zal HG.out hb); clear hb))
          go_loopw [5] (fun v5 w' => ∃ (j : Nat) (c1 : List Int), j ≤ (zak l0_0 i).f2.length ∧ v5 = .int .i64 j ∧ zab (cNames l0_0 ((zak l0_0 (i : Int)).f2.drop j) c1 = cNames l0_0 (zak l0_0 (i : Int)).f2 c) ∧ zab (c1.length = 64) ∧ zab (w'.heap[w.heap.size + 1]? = some (.cells (cntA c1) 47 (0, 0))) ∧ zab (Below (zar.W1 w (some ad) l0_0.length c0_0).heap.size (zar.W1 w (some ad) l0_0.length c0_0) w')) (fun v5 _ => (zak l0_0 i).f2.length - (intOf v5).toNat)
          case atStart => exact ⟨0, _, Nat.zero_le _, rfl, ⟨rfl⟩, HCL, HG1, HB1⟩
          case round =>
           clear HG1 HB1 HG HB hct hx0 hx1 hx2 hx3 hx4 hx5 HND1
           obtain ⟨j, c1, hj, rfl, HE, HCL1, HG, HB⟩ := hrel
           have hct := zar.zb8 HB.out
           have hmax2 := HM2.out
           have hx2 := (HB.out.cell (World.block_lt_of_cell? _ _ HX2.out)).trans HX2.out
           rw [Int.toNat_natCast] at hx2
           by_cases hlj : j < (zak l0_0 i).f2.length
           ·have hd := HE.out
            rw [cNames_drop l0_0 _ j hlj] at hd
            obtain ⟨am, rfl, hz0, hz1⟩ := zca HI2.out (j : Int) (by omega) (by omega)
            clear hz0
            replace hz1 := (HB.out.cell (World.block_lt_of_cell? _ _ hz1)).trans hz1
            rw [Int.toNat_natCast] at hz1
            by_cases q1 : (zau (zak l0_0 i).f2 j).f1 < 1
            ·have m1 : decide ((zau (zak l0_0 i).f2 j).f1 < 1) = true := decide_eq_true q1
             rw [if_pos q1] at hd
             have h2 := HD2.out
             rw [← hd] at h2
             obtain rfl := Option.some.inj (show some none = some O from h2)
             have HRR := zab.mk (Option.some.inj (show some false = some r from HRES.out))
             clear q1 hd h2
             go_wp2
             go_ret
             exact ⟨by rw [← HRR.out]; rfl, zan (zar.zbk _ _ _ _) HB.out⟩
            ·have m1 : decide ((zau (zak l0_0 i).f2 j).f1 < 1) = false := decide_eq_false q1
             rw [if_neg q1] at hd
             by_cases q2 : (l0_0.length : Int) ≤ (zau (zak l0_0 i).f2 j).f1
             ·have m2 : decide ((l0_0.length : Int) ≤ (zau (zak l0_0 i).f2 j).f1) = true := decide_eq_true q2
              rw [if_pos q2] at hd
              have h2 := HD2.out
              rw [← hd] at h2
              obtain rfl := Option.some.inj (show some none = some O from h2)
              have HRR := zab.mk (Option.some.inj (show some false = some r from HRES.out))
              clear q1 q2 hd h2
              go_wp2
              go_ret
              exact ⟨by rw [← HRR.out]; rfl, zan (zar.zbk _ _ _ _) HB.out⟩
             ·have m2 : decide ((l0_0.length : Int) ≤ (zau (zak l0_0 i).f2 j).f1) = false := decide_eq_false q2
              rw [if_neg q2] at hd
              have p0 := eq_true (show 0 ≤ (zau (zak l0_0 i).f2 j).f1 by omega)
              have p1 := eq_true (show (zau (zak l0_0 i).f2 j).f1 < (l0_0.length : Int) by omega)
              have p2 := eq_true (show (zau (zak l0_0 i).f2 j).f1 < 64 by have := HC2.out; omega)
              obtain ⟨nb, B3, d3, B4, d4, e4, hw0, hw1, hw2, hw3, hw4, hw5, hm1, ji1, hm2, ji2⟩ := zbl HR.out (zau (zak l0_0 i).f2 j).f1 (by omega) (by omega)
              obtain rfl := Option.some.inj e4
              clear hw1 hw2 hw3 hw4 hw5 hm1 ji1 hm2 ji2 e4
              replace hw0 := (HB.out.cell (World.block_lt_of_cell? _ _ hw0)).trans hw0
              by_cases q3 : (zak l0_0 (zau (zak l0_0 i).f2 j).f1).f0 = 0
              ·have m3 : ((zak l0_0 (zau (zak l0_0 i).f2 j).f1).f0 == 0) = true := by simpa using q3
               rw [if_pos q3] at hd
               have h2 := HD2.out
               rw [← hd] at h2
               obtain rfl := Option.some.inj (show some none = some O from h2)
               have HRR := zab.mk (Option.some.inj (show some false = some r from HRES.out))
               clear q1 q2 q3 hd h2
               go_wp2
               go_ret
               exact ⟨by rw [← HRR.out]; rfl, zan (zar.zbk _ _ _ _) HB.out⟩
              ·have m3 : ((zak l0_0 (zau (zak l0_0 i).f2 j).f1).f0 == 0) = false := by simpa using q3
               rw [if_neg q3] at hd
               have HE1 := zab.mk hd
               have hcc := (zaa HG.out (zau (zak l0_0 i).f2 j).f1.toNat).trans (cntA_cell c1 (zau (zak l0_0 i).f2 j).f1 (by omega) (by have := HCL1.out; have := HC2.out; omega))
               have hcf := zai HG.out (zau (zak l0_0 i).f2 j).f1.toNat
               have HG2 : zab ((wr.setCell ⟨w.heap.size + 1, (zau (zak l0_0 i).f2 j).f1.toNat, none⟩ (.int .i64 (wrap64 (rd c1 (zau (zak l0_0 i).f2 j).f1 + 1)))).heap[w.heap.size + 1]? = some (.cells (cntA (c1.set (zau (zak l0_0 i).f2 j).f1.toNat (wrap64 (rd c1 (zau (zak l0_0 i).f2 j).f1 + 1)))) 47 (0, 0))) := ⟨by rw [← cntA_set]; exact blk_set HG.out _ _⟩
               have HB2 := zab.mk (HB.out.setCell (p := ⟨w.heap.size + 1, (zau (zak l0_0 i).f2 j).f1.toNat, none⟩) (by rw [HSZ.out]; exact Nat.le_refl _) (.int .i64 (wrap64 (rd c1 (zau (zak l0_0 i).f2 j).f1 + 1))))
               clear q1 q2 q3 hd
               go_wp2
               go_roundw
               case rel => exact ⟨j + 1, _, by omega, by go_num, HE1, ⟨by rw [List.length_set]; exact HCL1.out⟩, HG2, HB2⟩
               case measure => simp [intOf]; omega
           ·have hd := HE.out
            rw [List.drop_eq_nil_of_le (by omega), cNames] at hd
            have h2 := HD2.out
            rw [← hd] at h2
            have HND2 := zab.mk (show cNodes l0_0 k (l0_0.length - (i + 1)) (i + 1) c1 = some O from h2)
            clear hd h2
            go_wp2
            go_roundw
            case rel => exact ⟨i + 1, _, by omega, by go_num, HND2, HCL1, HG, HB⟩
            case measure => simp [intOf]; omega
        ·have hd := HND.out
         rw [show l0_0.length - i = 0 by omega, cNodes] at hd
         obtain rfl := Option.some.inj hd
         clear hd HND
         have HEE := zab.mk (show (if goodR l0_0 c l0_0.length = true then zaz.f k l0_0 else some false) = some r from HRES.out)
         clear HRES
         go_wp2
         go_loopw [7] (fun v7 w' => ∃ i : Nat, i ≤ l0_0.length ∧ v7 = .int .i64 i ∧ zab (goodR l0_0 c i = true) ∧ zab (w'.heap[w.heap.size + 1]? = some (.cells (cntA c) 47 (0, 0))) ∧ zab (Below (zar.W1 w (some ad) l0_0.length c0_0).heap.size (zar.W1 w (some ad) l0_0.length c0_0) w')) (fun v7 _ => l0_0.length - (intOf v7).toNat)
         case atStart => exact ⟨0, Nat.zero_le _, rfl, ⟨rfl⟩, HG, HB⟩
         case round =>
          clear HG HB hct hlt hi
          obtain ⟨i, hi, rfl, HE, HG, HB⟩ := hrel
          have hct := zar.zb8 HB.out
          have hmax : l0_0.length ≤ 9223372036854775807 := by have := HC2.out; omega
          by_cases hlt : i < l0_0.length
          ·obtain ⟨na, A1, e1, A2, e2, ee, hx0, hx1, hx2, hx3, hx4, hx5, hl1, hi1, hl2, hi2⟩ := zbl HR.out (i : Int) (by omega) (by omega)
           obtain rfl := Option.some.inj ee
           replace hx0 := (HB.out.cell (World.block_lt_of_cell? _ _ hx0)).trans hx0
           replace hx1 := (HB.out.cell (World.block_lt_of_cell? _ _ hx1)).trans hx1
           replace hx2 := (HB.out.cell (World.block_lt_of_cell? _ _ hx2)).trans hx2
           replace hx3 := (HB.out.cell (World.block_lt_of_cell? _ _ hx3)).trans hx3
           replace hx4 := (HB.out.cell (World.block_lt_of_cell? _ _ hx4)).trans hx4
           replace hx5 := (HB.out.cell (World.block_lt_of_cell? _ _ hx5)).trans hx5
           rw [Int.toNat_natCast] at hx0 hx1 hx2 hx3 hx4 hx5
           have hcc := (zaa (zae HG.out (.cells #[.int .i64 (zak l0_0 i).f0, .slice A1 (zak l0_0 i).f1.length e1, .slice A2 (zak l0_0 i).f2.length e2, .string (zak l0_0 i).f3, .int .i64 (zak l0_0 i).f4, .int .i64 (zak l0_0 i).f5] 40)) i).trans (cntA_cell c (i : Int) (by omega) (by have := HCL.out; have := HC2.out; omega))
           have h64 : i < 64 := by have := HC2.out; omega
           have hm2 := hi2.2.1
           clear hl1 hi1 hl2 hi2 ee
           by_cases q0 : (zak l0_0 i).f0 = 0
           ·have m0 : ((zak l0_0 i).f0 != 0) = false := by simpa using q0
            have m02 : ((zak l0_0 i).f0 == 2) = false := by rw [q0]; rfl
            have HOK : zab (badR l0_0 c i = false) := ⟨by unfold badR; simp [m0, m02]⟩
            have HNX : zab (goodR l0_0 c (i + 1) = true) := ⟨by rw [goodR_succ, HE.out, HOK.out]; rfl⟩
            clear q0
            go_wp2
            go_quiet (fail)
            go_wp2
            go_roundw
            case rel => exact ⟨i + 1, by omega, by go_num, HNX, ⟨zae HG.out _⟩, ⟨zac (zad HB.out _) _⟩⟩
            case measure => simp [intOf]; omega
           ·have m0 : ((zak l0_0 i).f0 != 0) = true := by simpa using q0
            by_cases q1 : (zak l0_0 i).f4 = rd c i
            ·have m1 : ((zak l0_0 i).f4 != rd c i) = false := by simpa using q1
             by_cases q2 : (zak l0_0 i).f0 = 2
             ·have m2 : ((zak l0_0 i).f0 == 2) = true := by simpa using q2
              by_cases q3 : 1 < (zak l0_0 i).f4
              ·have m3 : decide (1 < (zak l0_0 i).f4) = true := decide_eq_true q3
               have HBAD : zab (badR l0_0 c i = true) := ⟨by unfold badR; simp [m0, m1, m2, m3]⟩
               have HGF := zab.mk (goodR_false hlt HBAD.out)
               have HV : zab (r = false) := ⟨by have := HEE.out; rw [HGF.out, if_neg (by simp)] at this; exact (Option.some.inj this).symm⟩
               clear q0 q1 q2 q3
               go_wp2
               go_quiet (fail)
               go_wp2
               go_ret
               exact ⟨by rw [HV.out]; rfl, zan (zar.zbk _ _ _ _) (zac (zad HB.out _) _)⟩
              ·have m3 : decide (1 < (zak l0_0 i).f4) = false := decide_eq_false q3
               by_cases q4 : (zak l0_0 i).f4 = 0
               ·have m4 : ((zak l0_0 i).f4 == 0) = true := by simpa using q4
                by_cases q5 : 0 < (zak l0_0 i).f2.length
                ·have m5 : decide (0 < (zak l0_0 i).f2.length) = true := decide_eq_true q5
                 have m5b : decide ((0 : Int) < ((zak l0_0 i).f2.length : Int)) = true := decide_eq_true (by omega)
                 have HBAD : zab (badR l0_0 c i = true) := ⟨by unfold badR; simp [m0, m1, m2, m3, m4, m5]⟩
                 have HGF := zab.mk (goodR_false hlt HBAD.out)
                 have HV : zab (r = false) := ⟨by have := HEE.out; rw [HGF.out, if_neg (by simp)] at this; exact (Option.some.inj this).symm⟩
                 clear q0 q1 q2 q3 q4 q5
                 go_wp2
                 go_quiet (fail)
                 go_wp2
                 go_ret
                 exact ⟨by rw [HV.out]; rfl, zan (zar.zbk _ _ _ _) (zac (zad HB.out _) _)⟩
                ·have m5 : decide (0 < (zak l0_0 i).f2.length) = false := decide_eq_false q5
                 have m5b : decide ((0 : Int) < ((zak l0_0 i).f2.length : Int)) = false := decide_eq_false (by omega)
                 have HOK : zab (badR l0_0 c i = false) := ⟨by unfold badR; simp [m0, m1, m2, m3, m4, m5]⟩
                 have HNX : zab (goodR l0_0 c (i + 1) = true) := ⟨by rw [goodR_succ, HE.out, HOK.out]; rfl⟩
                 clear q0 q1 q2 q3 q4 q5
                 go_wp2
                 go_quiet (fail)
                 go_wp2
                 go_roundw
                 case rel => exact ⟨i + 1, by omega, by go_num, HNX, ⟨zae HG.out _⟩, ⟨zac (zad HB.out _) _⟩⟩
                 case measure => simp [intOf]; omega
               ·have m4 : ((zak l0_0 i).f4 == 0) = false := by simpa using q4
                have HOK : zab (badR l0_0 c i = false) := ⟨by unfold badR; simp [m0, m1, m2, m3, m4]⟩
                have HNX : zab (goodR l0_0 c (i + 1) = true) := ⟨by rw [goodR_succ, HE.out, HOK.out]; rfl⟩
                clear q0 q1 q2 q3 q4
                go_wp2
                go_quiet (fail)
                go_wp2
                go_roundw
                case rel => exact ⟨i + 1, by omega, by go_num, HNX, ⟨zae HG.out _⟩, ⟨zac (zad HB.out _) _⟩⟩
                case measure => simp [intOf]; omega
             ·have m2 : ((zak l0_0 i).f0 == 2) = false := by simpa using q2
              have HOK : zab (badR l0_0 c i = false) := ⟨by unfold badR; simp [m0, m1, m2]⟩
              have HNX : zab (goodR l0_0 c (i + 1) = true) := ⟨by rw [goodR_succ, HE.out, HOK.out]; rfl⟩
              clear q0 q1 q2
              go_wp2
              go_quiet (fail)
              go_wp2
              go_roundw
              case rel => exact ⟨i + 1, by omega, by go_num, HNX, ⟨zae HG.out _⟩, ⟨zac (zad HB.out _) _⟩⟩
              case measure => simp [intOf]; omega
            ·have m1 : ((zak l0_0 i).f4 != rd c i) = true := by simpa using q1
             have HBAD : zab (badR l0_0 c i = true) := ⟨by unfold badR; simp [m0, m1]⟩
             have HGF := zab.mk (goodR_false hlt HBAD.out)
             have HV : zab (r = false) := ⟨by have := HEE.out; rw [HGF.out, if_neg (by simp)] at this; exact (Option.some.inj this).symm⟩
             clear q0 q1
             go_wp2
             go_quiet (fail)
             go_wp2
             go_ret
             exact ⟨by rw [HV.out]; rfl, zan (zar.zbk _ _ _ _) (zac (zad HB.out _) _)⟩
          ·obtain rfl : i = l0_0.length := by omega
           have h2 := HEE.out
           rw [if_pos HE.out] at h2
           have HEF := zab.mk h2
           clear h2
           go_wp2_with (first | (go_at_call 24; refine (zaz.calls k _ c0_0 l0_0 r _ (Kd.C_below HR.out HB.out) HC.out HEF.out).mono ?_; rintro e w1 ⟨rfl, hb⟩; have HB1 := zab.mk (zan HB.out hb); clear hb))
           go_ret
           exact ⟨rfl, zan (zar.zbk _ _ _ _) HB1.out⟩
    ·have n6 : ((zak l0_0 0).f4 != 1) = true := by simpa using c6
     have HF : zab (zbX l0_0 = false) := ⟨by unfold zbX; simp [c6]⟩
     clear c5 c6
     rw [HF.out] at h
     have HH := zab.mk (Option.some.inj h)
     clear h
     go_enter Tryz.func14, Tryz.ntmps14
     go_wp2
     go_ret
     exact ⟨by rw [← HH.out]; rfl, zar.zbk _ _ _ _⟩
   ·have n5 : ((zak l0_0 0).f0 != 2) = true := by simpa using c5
    have HF : zab (zbX l0_0 = false) := ⟨by unfold zbX; simp [c5]⟩
    clear c5
    rw [HF.out] at h
    have HH := zab.mk (Option.some.inj h)
    clear h
    go_enter Tryz.func14, Tryz.ntmps14
    go_wp2
    go_ret
    exact ⟨by rw [← HH.out]; rfl, zar.zbk _ _ _ _⟩
  ·have n2 : decide ((64 : Int) < (l0_0.length : Int)) = true := decide_eq_true (by omega)
   have n2b : decide (64 < l0_0.length) = true := decide_eq_true (by omega)
   have HF : zab (zbX l0_0 = false) := ⟨by unfold zbX; simp [c2]⟩
   clear c1 c2
   rw [HF.out] at h
   have HH := zab.mk (Option.some.inj h)
   clear h
   go_enter Tryz.func14, Tryz.ntmps14
   go_wp2
   go_ret
   exact ⟨by rw [← HH.out]; rfl, zar.zbk _ _ _ _⟩
 ·have n1 : decide ((l0_0.length : Int) < 1) = true := decide_eq_true (by omega)
  have n1b : decide (l0_0.length < 1) = true := decide_eq_true (by omega)
  have HF : zab (zbX l0_0 = false) := ⟨by unfold zbX; simp [c1]⟩
  clear c1
  rw [HF.out] at h
  have HH := zab.mk (Option.some.inj h)
  clear h
  go_enter Tryz.func14, Tryz.ntmps14
  go_wp2
  go_ret
  exact ⟨by rw [← HH.out]; rfl, zar.zbk _ _ _ _⟩
def NodeQ (x : S40) : Prop :=
 (x.f0 = 1 ∧ x.f1.length ≤ 16384 ∧ x.f2 = [] ∧ x.f3 = ⟨#[]⟩) ∨ (x.f0 = 2 ∧ x.f2.length ≤ 64 ∧ (∀ i, i < x.f2.length → okR x.f2 i) ∧ x.f1 = [] ∧ x.f3 = ⟨#[]⟩) ∨
 (x.f0 = 3 ∧ x.f3 ≠ ⟨#[]⟩ ∧ x.f3.size ≤ 512 ∧ (0 : UInt8) ∉ bytesOf x.f3 ∧ x.f1 = [] ∧ x.f2 = [])
theorem nodeP_Q (x : S40) : zcr x ↔ (x.f0 = 0 ∧ x = z40) ∨ (TimeP x.f5 ∧ NodeQ x) := by
 unfold zcr NodeQ
 constructor
 ·rintro (h | ⟨a, b, c⟩ | ⟨a, b, c⟩ | ⟨a, b, c⟩)
  ·exact .inl h
  ·exact .inr ⟨b, .inl ⟨a, c⟩⟩
  ·exact .inr ⟨b, .inr (.inl ⟨a, c⟩)⟩
  ·exact .inr ⟨b, .inr (.inr ⟨a, c⟩)⟩
 ·rintro (h | ⟨b, ⟨a, c⟩ | ⟨a, c⟩ | ⟨a, c⟩⟩)
  ·exact .inl h
  ·exact .inr (.inl ⟨a, b, c⟩)
  ·exact .inr (.inr (.inl ⟨a, b, c⟩))
  ·exact .inr (.inr (.inr ⟨a, b, c⟩))
theorem size_pos (s : ByteArray) : (s.size : Int) ≥ 1 ↔ s ≠ ⟨#[]⟩ := by
 constructor
 ·rintro h rfl; exact absurd h (by decide)
 ·intro h
  have h1 : bytesOf s ≠ [] := fun e => h (zcz.1 (by rw [ByteArray.toList_eq]; exact e))
  have h2 := List.length_pos_iff.2 h1
  rw [bytesOf_len] at h2
  omega
def FitsX (x : S40) : Prop := FitsN x ∧ (∀ z ∈ x.f2, z.f0.size < 9223372036854775807) ∧ x.f3.size < 9223372036854775807
theorem page_j0 (x : S40) (hx : FitsX x) (b : Bool) : EvB (fun k => zao.j0 k b x.f0 x.f1 x.f2 x.f3 x.f4 x.f5 x.f0 (⟨#[]⟩ : ByteArray) x.f4 x.f5) ((x.f0 = 0 ∧ x = z40) ∨ (b = true ∧ NodeQ x)) := by
 by_cases c0 : x.f0 = 0
 ·refine EvB.step ((EvB.same (eqNode x z40 hx.1)).iff ⟨fun h => .inl ⟨c0, h⟩, fun h => ?_⟩) (fun k => ?_)
  ·rcases h with h | ⟨_, h | h | h⟩
   ·exact h.2
   all_goals (have := h.1; omega)
  ·rw [zao.j0, if_pos c0]; rfl
 by_cases c1 : x.f0 = 1
 ·have e : ((x.f0 = 0 ∧ x = z40) ∨ (b = true ∧ NodeQ x)) ↔ b = true ∧ x.f1.length ≤ 16384 ∧ x.f2 = [] ∧ x.f3 = ⟨#[]⟩ := by
   constructor
   ·rintro (h | ⟨h1, h | h | h⟩)
    ·exact absurd h.1 c0
    ·exact ⟨h1, h.2⟩
    all_goals (have := h.1; omega)
   ·exact fun h => .inr ⟨h.1, .inl ⟨c1, h.2⟩⟩
  rw [e]
  cases b with
  | false => exact EvB.step (EvB.no (fun h => by (cases h.1))) (fun k => by rw [zao.j0, if_neg c0, if_pos c1, if_neg (by simp)])
  | true =>
   by_cases c2 : (x.f1.length : Int) ≤ 16384
   ·refine EvB.step ((EvB.same (eqNode x ⟨x.f0, x.f1, [], ⟨#[]⟩, x.f4, x.f5⟩ hx.1)).iff ?_) (fun k => by rw [zao.j0, if_neg c0, if_pos c1, if_pos rfl, if_pos c2]; rfl)
    rw [node_ext]
    exact ⟨fun h => ⟨rfl, by omega, h.2.2.1, h.2.2.2.1⟩, fun h => ⟨rfl, rfl, h.2.2.1, h.2.2.2, rfl, rfl⟩⟩
   ·exact EvB.step (EvB.no (fun h => by have := h.2.1; omega)) (fun k => by rw [zao.j0, if_neg c0, if_pos c1, if_pos rfl, if_neg c2])
 by_cases c2 : x.f0 = 2
 ·have e : ((x.f0 = 0 ∧ x = z40) ∨ (b = true ∧ NodeQ x)) ↔ b = true ∧ x.f2.length ≤ 64 ∧ (∀ i, i < x.f2.length → okR x.f2 i) ∧ x.f1 = [] ∧ x.f3 = ⟨#[]⟩ := by
   constructor
   ·rintro (h | ⟨h1, h | h | h⟩)
    ·exact absurd h.1 c0
    ·exact absurd h.1 c1
    ·exact ⟨h1, h.2⟩
    ·have := h.1; omega
   ·exact fun h => .inr ⟨h.1, .inr (.inl ⟨c2, h.2⟩)⟩
  rw [e]
  have hL := fun b' => page_names x hx.1 ⟨x.f0, [], x.f2, ⟨#[]⟩, x.f4, x.f5⟩ hx.2.1 rfl x.f2.length 0 b' (by omega)
  have hJ : ∀ b', EvB (fun k => zao.j1 k b' x.f0 x.f1 x.f2 x.f3 x.f4 x.f5 x.f0 x.f2 (⟨#[]⟩ : ByteArray) x.f4 x.f5) (b' = true ∧ (∀ j, 0 ≤ j → j < x.f2.length → okR x.f2 j) ∧ x = ⟨x.f0, [], x.f2, ⟨#[]⟩, x.f4, x.f5⟩) := fun b' => EvB.step (hL b') (fun k => by rw [zao.j1]; rfl)
  cases b with
  | false => exact EvB.step ((hJ false).iff ⟨fun h => by (cases h.1), fun h => by (cases h.1)⟩) (fun k => by rw [zao.j0, if_neg c0, if_neg c1, if_pos c2, if_neg (by simp)])
  | true =>
   refine EvB.step ((hJ (decide ((x.f2.length : Int) ≤ 64))).iff ?_) (fun k => by rw [zao.j0, if_neg c0, if_neg c1, if_pos c2, if_pos rfl])
   rw [decide_eq_true_eq, node_ext]
   exact ⟨fun h => ⟨rfl, by omega, fun i hi => h.2.1 i (Nat.zero_le _) hi, h.2.2.2.1, h.2.2.2.2.2.1⟩, fun h => ⟨by omega, fun j _ hj => h.2.2.1 j hj, rfl, h.2.2.2.1, rfl, h.2.2.2.2, rfl, rfl⟩⟩
 by_cases c3 : x.f0 = 3
 ·have e : ((x.f0 = 0 ∧ x = z40) ∨ (b = true ∧ NodeQ x)) ↔ b = true ∧ x.f3 ≠ ⟨#[]⟩ ∧ x.f3.size ≤ 512 ∧ (0 : UInt8) ∉ bytesOf x.f3 ∧ x.f1 = [] ∧ x.f2 = [] := by
   constructor
   ·rintro (h | ⟨h1, h | h | h⟩)
    ·exact absurd h.1 c0
    ·exact absurd h.1 c1
    ·exact absurd h.1 c2
    ·exact ⟨h1, h.2⟩
   ·exact fun h => .inr ⟨h.1, .inr (.inr ⟨c3, h.2⟩)⟩
  rw [e]
  cases b with
  | false => exact EvB.step (EvB.no (fun h => by (cases h.1))) (fun k => by rw [zao.j0, if_neg c0, if_neg c1, if_neg c2, if_pos c3, if_neg (by simp)])
  | true =>
   by_cases d1 : (x.f3.size : Int) ≥ 1
   ·by_cases d2 : (x.f3.size : Int) ≤ 512
    ·by_cases d3 : (0 : UInt8) ∈ bytesOf x.f3
     ·refine ⟨false, Ev.step (fun k => by rw [zao.j0, if_neg c0, if_neg c1, if_neg c2, if_pos c3, if_pos rfl, if_pos d1, if_pos d2]) (Ev.bind (f := fun k t => if t = true then some false else (zaK.f k x.f0 x.f1 x.f2 x.f3 x.f4 x.f5 x.f0 ([] : List Int) ([] : List S50) x.f3 x.f4 x.f5).bind fun t => some t) ((zero_ev x.f3 hx.2.2).out d3) (Ev.congr (fun k => if_pos rfl) (Ev.now false))), ?_⟩
      exact ⟨fun h => by (cases h), fun h => absurd d3 h.2.2.2.1⟩
     ·obtain ⟨r, h1, h2⟩ := EvB.same (eqNode x ⟨x.f0, [], [], x.f3, x.f4, x.f5⟩ hx.1)
      refine ⟨r, Ev.step (fun k => by rw [zao.j0, if_neg c0, if_neg c1, if_neg c2, if_pos c3, if_pos rfl, if_pos d1, if_pos d2]) (Ev.bind (f := fun k t => if t = true then some false else (zaK.f k x.f0 x.f1 x.f2 x.f3 x.f4 x.f5 x.f0 ([] : List Int) ([] : List S50) x.f3 x.f4 x.f5).bind fun t => some t) ((zero_ev x.f3 hx.2.2).not d3) (Ev.congr (fun k => if_neg (by simp)) h1)), h2.trans ?_⟩
      rw [node_ext]
      exact ⟨fun h => ⟨rfl, (size_pos _).1 d1, by omega, d3, h.2.1, h.2.2.1⟩, fun h => ⟨rfl, h.2.2.2.2.1, h.2.2.2.2.2, rfl, rfl, rfl⟩⟩
    ·exact EvB.step (EvB.no (fun h => by have := h.2.2.1; omega)) (fun k => by rw [zao.j0, if_neg c0, if_neg c1, if_neg c2, if_pos c3, if_pos rfl, if_pos d1, if_neg d2])
   ·exact EvB.step (EvB.no (fun h => d1 ((size_pos _).2 h.2.1))) (fun k => by rw [zao.j0, if_neg c0, if_neg c1, if_neg c2, if_pos c3, if_pos rfl, if_neg d1])
 ·refine EvB.step (EvB.no ?_) (fun k => by rw [zao.j0, if_neg c0, if_neg c1, if_neg c2, if_neg c3])
  rintro (h | ⟨h1, h | h | h⟩)
  ·exact c0 h.1
  ·exact c1 h.1
  ·exact c2 h.1
  ·exact c3 h.1
theorem page_node_ok (x : S40) (hx : FitsX x) : EvB (fun k => rnode k x) (zcr x ∧ (x.f0 ≠ 0 → 0 ≤ x.f4)) := by
 obtain ⟨tb, ht, htp⟩ := page_time x.f5
 unfold rnode zao.f
 rw [nodeP_Q]
 cases tb with
 | true =>
  have hT := htp.1 rfl
  refine ((page_j0 x hx (decide (x.f4 ≥ 0))).iff ?_).congr (fun k => by rw [ht, Option.bind_some, if_pos rfl])
  rw [decide_eq_true_eq]
  constructor
  ·rintro (h | h)
   ·exact ⟨.inl h, fun h0 => absurd h.1 h0⟩
   ·exact ⟨.inr ⟨hT, h.2⟩, fun _ => h.1⟩
  ·rintro ⟨h | h, h2⟩
   ·exact .inl h
   ·refine .inr ⟨h2 ?_, h.2⟩
    rcases h.2 with h | h | h <;> (have := h.1; omega)
 | false =>
  have hT : ¬ TimeP x.f5 := fun h => absurd (htp.2 h) (by simp)
  refine ((page_j0 x hx false).iff ?_).congr (fun k => by rw [ht, Option.bind_some, if_neg (by simp)])
  constructor
  ·rintro (h | h)
   ·exact ⟨.inl h, fun h0 => absurd h.1 h0⟩
   ·cases h.1
  ·rintro ⟨h | h, h2⟩
   ·exact .inl h
   ·exact absurd h.1 hT
def bump (c : List Int) (x : S50) : List Int := c.set x.f1.toNat (wrap64 (rd c x.f1 + 1))
theorem bump_len (c : List Int) (x : S50) : (bump c x).length = c.length := List.length_set
def bumps (l : List S40) : Nat → Nat → List Int → List Int
 | 0, _, c => c
 | d + 1, i, c => bumps l d (i + 1) ((zak l (i : Int)).f2.foldl bump c)
theorem fold_len (ns : List S50) : ∀ c : List Int, (ns.foldl bump c).length = c.length := by
 induction ns with
 | nil => intro c; rfl
 | cons x r ih => intro c; rw [List.foldl_cons, ih, bump_len]
theorem bumps_len (l : List S40) : ∀ d i c, (bumps l d i c).length = c.length
 | 0, _, _ => rfl
 | d + 1, i, c => by rw [bumps, bumps_len l d, fold_len]
theorem cNames_ok (l : List S40) : ∀ (ns : List S50) (c : List Int), (∀ x ∈ ns, zb4 l x) → cNames l ns c = some (ns.foldl bump c)
 | [], c, _ => rfl
 | x :: r, c, h => by
  have hx := h x (List.mem_cons_self ..)
  rw [cNames, if_neg (by have := hx.1; omega), if_neg (by have := hx.2.1; omega), if_neg hx.2.2]
  exact cNames_ok l r _ (fun y hy => h y (List.mem_cons_of_mem _ hy))
theorem cNames_no (l : List S40) : ∀ (ns : List S50) (c : List Int), ¬ (∀ x ∈ ns, zb4 l x) → cNames l ns c = none
 | [], c, h => absurd (by simp) h
 | x :: r, c, h => by
  rw [cNames]
  by_cases h1 : x.f1 < 1
  ·rw [if_pos h1]
  rw [if_neg h1]
  by_cases h2 : (l.length : Int) ≤ x.f1
  ·rw [if_pos h2]
  rw [if_neg h2]
  by_cases h3 : (zak l x.f1).f0 = 0
  ·rw [if_pos h3]
  rw [if_neg h3]
  refine cNames_no l r _ (fun hr => h fun y hy => ?_)
  rcases List.mem_cons.1 hy with rfl | hy
  ·exact ⟨by omega, by omega, h3⟩
  ·exact hr y hy
def AllR (l : List S40) (i : Nat) : Prop := ∀ j, i ≤ j → j < l.length → (zcr (zak l (j : Int)) ∧ ((zak l (j : Int)).f0 ≠ 0 → 0 ≤ (zak l (j : Int)).f4)) ∧ ∀ x ∈ (zak l (j : Int)).f2, zb4 l x
def Fits (l : List S40) : Prop := ∀ x ∈ l, FitsX x
theorem fits_at {l : List S40} (h : Fits l) (i : Nat) (hi : i < l.length) : FitsX (zak l (i : Int)) := by rw [zcn l i hi]; exact h _ (List.getElem_mem _)
theorem cNodes_ok (l : List S40) (hf : Fits l) : ∀ (d i : Nat) (c : List Int), i + d = l.length → AllR l i → Ev (fun k => cNodes l k d i c) (some (bumps l d i c))
 | 0, i, c, _, _ => Ev.now _
 | d + 1, i, c, h, hA => by
  have hi := hA i (Nat.le_refl _) (by omega)
  refine Ev.bind (f := fun k b => if b = true then (match cNames l (zak l (i : Int)).f2 c with | none => some none | some c' => cNodes l k d (i + 1) c') else some none) ((page_node_ok _ (fits_at hf i (by omega))).out hi.1) (Ev.congr (fun k => if_pos rfl) ?_)
  rw [cNames_ok l _ c hi.2]
  exact cNodes_ok l hf d (i + 1) _ (by omega) (fun j h1 h2 => hA j (by omega) h2)
theorem cNodes_no (l : List S40) (hf : Fits l) : ∀ (d i : Nat) (c : List Int), i + d = l.length → ¬ AllR l i → Ev (fun k => cNodes l k d i c) none
 | 0, i, c, h, hA => absurd (fun j h1 h2 => by omega) hA
 | d + 1, i, c, h, hA => by
  by_cases h1 : zcr (zak l (i : Int)) ∧ ((zak l (i : Int)).f0 ≠ 0 → 0 ≤ (zak l (i : Int)).f4)
  ·refine Ev.bind (f := fun k b => if b = true then (match cNames l (zak l (i : Int)).f2 c with | none => some none | some c' => cNodes l k d (i + 1) c') else some none) ((page_node_ok _ (fits_at hf i (by omega))).out h1) (Ev.congr (fun k => if_pos rfl) ?_)
   by_cases h2 : ∀ x ∈ (zak l (i : Int)).f2, zb4 l x
   ·rw [cNames_ok l _ c h2]
    refine cNodes_no l hf d (i + 1) _ (by omega) (fun hr => hA fun j h3 h4 => ?_)
    by_cases e : j = i
    ·subst e; exact ⟨h1, h2⟩
    ·exact hr j (by omega) h4
   ·rw [cNames_no l _ c h2]; exact Ev.now _
  ·exact Ev.bind (f := fun k b => if b = true then (match cNames l (zak l (i : Int)).f2 c with | none => some none | some c' => cNodes l k d (i + 1) c') else some none) ((page_node_ok _ (fits_at hf i (by omega))).not h1) (Ev.congr (fun k => if_neg (by simp)) (Ev.now _))
theorem links_l1 (l : List S40) (i : Nat) (hi : (i : Int) + 1 < 9223372036854775807) (ns : List S50) (hns : ns.length < 9223372036854775807) (F : List Int → List Int) (hF : ∀ c : List Int, c.length = l.length → Ev (fun k => za1.l0 k c l (l.length : Int) ((i + 1 : Nat) : Int)) (F c)) :
  ∀ (d j : Nat) (c : List Int), j + d = ns.length → c.length = l.length → (∀ x ∈ ns, 0 ≤ x.f1 ∧ x.f1 < (l.length : Int)) → Ev (fun k => za1.l1 k c l (l.length : Int) (i : Int) ns (ns.length : Int) (j : Int)) (F ((ns.drop j).foldl bump c))
 | 0, j, c, h, hc, _ => by
  rw [List.drop_eq_nil_of_le (by omega)]
  refine Ev.step (fun k => ?_) (hF c hc)
  rw [za1.l1, if_neg (by omega), up64 (by omega)]
 | d + 1, j, c, h, hc, hr => by
  have hj : j < ns.length := by omega
  have hx := hr ns[j] (List.getElem_mem _)
  have ih := links_l1 l i hi ns hns F hF d (j + 1) (bump c ns[j]) (by omega) (by rw [bump_len]; exact hc) hr
  rw [List.drop_eq_getElem_cons hj, List.foldl_cons]
  refine Ev.step (fun k => ?_) ih
  rw [za1.l1, if_pos (by omega), if_pos (by omega), if_pos (by omega), zbS ns j hj, if_pos hx.1, if_pos (by omega), up64 (by omega)]
  rfl
theorem links_l0 (l : List S40) (hl : l.length ≤ 64) (hf : Fits l) (hr : InRange l) : ∀ (d i : Nat) (c : List Int), i + d = l.length → c.length = l.length → Ev (fun k => za1.l0 k c l (l.length : Int) (i : Int)) (bumps l d i c)
 | 0, i, c, h, hc => Ev.step (f := fun _ => some c) (fun k => by rw [za1.l0, if_neg (by omega)]) (Ev.now _)
 | d + 1, i, c, h, hc => by
  have h1 := links_l1 l i (by omega) (zak l (i : Int)).f2 (by have := (fits_at hf i (by omega)).1.2; omega) (bumps l d (i + 1)) (fun c' hc' => links_l0 l hl hf hr d (i + 1) c' (by omega) hc') (zak l (i : Int)).f2.length 0 c (by omega) hc (hr i (by omega))
  refine Ev.step (fun k => ?_) h1
  rw [za1.l0, if_pos (by omega), if_pos (by omega), if_pos (by omega)]; rfl
theorem links_ev (l : List S40) (hl : l.length ≤ 64) (hf : Fits l) (hr : InRange l) : Ev (fun k => za1.f k l) (bumps l l.length 0 (List.replicate l.length 0)) := by
 refine Ev.congr (fun k => ?_) (links_l0 l hl hf hr l.length 0 (List.replicate l.length 0) (by omega) (by simp))
 unfold za1.f
 rw [if_pos (by omega), if_pos (by omega), Int.toNat_natCast]; rfl
theorem rd_set (c : List Int) (m i : Nat) (v : Int) (h : m < c.length) : rd (c.set m v) (i : Int) = if m = i then v else rd c (i : Int) := by
 unfold rd
 rw [Int.toNat_natCast, List.getD_eq_getElem?_getD, List.getD_eq_getElem?_getD, List.getElem?_set]
 by_cases e : m = i
 ·subst e; simp [h]
 ·simp [e]
structure Cnt (l : List S40) (L c : List Int) (t : Int) : Prop where
 lenL : L.length = l.length
 lenC : c.length = 64
 same : ∀ i : Nat, 1 ≤ i → i < l.length → rd c (i : Int) = rd L (i : Int)
 one : rd c ((0 : Nat) : Int) = 1
 low : ∀ i : Nat, i < l.length → 0 ≤ rd L (i : Int) ∧ rd L (i : Int) ≤ t
 free : ∀ i : Nat, i < l.length → (zak l (i : Int)).f0 = 0 → rd L (i : Int) = 0
theorem Cnt.bump_ {l : List S40} {L c : List Int} {t : Int} (hl : l.length ≤ 64) (h : Cnt l L c t) (ht : t < 1000000000) {x : S50} (hx : zb4 l x) : Cnt l (bump L x) (bump c x) (t + 1) := by
 obtain ⟨x1, x2, x3⟩ := hx
 obtain ⟨m, hm⟩ : ∃ m : Nat, x.f1 = (m : Int) := ⟨x.f1.toNat, by omega⟩
 have hL : ∀ i : Nat, rd (bump L x) (i : Int) = if m = i then rd L (m : Int) + 1 else rd L (i : Int) := fun i => by
  unfold bump
  rw [hm, Int.toNat_natCast, rd_set _ _ _ _ (by rw [h.lenL]; omega)]
  have := h.low m (by omega)
  by_cases e : m = i
  ·rw [if_pos e, if_pos e]; unfold wrap64; omega
  ·rw [if_neg e, if_neg e]
 have hC : ∀ i : Nat, rd (bump c x) (i : Int) = if m = i then rd L (m : Int) + 1 else rd c (i : Int) := fun i => by
  unfold bump
  rw [hm, Int.toNat_natCast, rd_set _ _ _ _ (by rw [h.lenC]; omega)]
  have := h.low m (by omega)
  by_cases e : m = i
  ·rw [if_pos e, if_pos e, h.same m (by omega) (by omega)]; unfold wrap64; omega
  ·rw [if_neg e, if_neg e]
 refine ⟨by rw [bump_len]; exact h.lenL, by rw [bump_len]; exact h.lenC, fun i h1 h2 => ?_, ?_, fun i h1 => ?_, fun i h1 h2 => ?_⟩
 ·rw [hL, hC, h.same i h1 h2]
 ·rw [hC, if_neg (by omega)]; exact h.one
 ·rw [hL]
  have h2 := h.low i h1
  by_cases e : m = i
  ·subst e; rw [if_pos rfl]; omega
  ·rw [if_neg e]; omega
 ·rw [hL]
  by_cases e : m = i
  ·subst e; rw [hm] at x3; exact absurd h2 x3
  ·rw [if_neg e]; exact h.free i h1 h2
theorem Cnt.fold {l : List S40} (hl : l.length ≤ 64) : ∀ (ns : List S50) {L c : List Int} {t : Int}, Cnt l L c t → t + ns.length < 1000000000 → (∀ x ∈ ns, zb4 l x) → Cnt l (ns.foldl bump L) (ns.foldl bump c) (t + ns.length)
 | [], L, c, t, h, _, _ => by simpa using h
 | x :: r, L, c, t, h, ht, hx => by
  have h1 := h.bump_ hl (by simp at ht; omega) (hx x (List.mem_cons_self ..))
  have h2 := Cnt.fold hl r h1 (by simp at ht; omega) (fun y hy => hx y (List.mem_cons_of_mem _ hy))
  rw [List.foldl_cons, List.foldl_cons]
  rw [show t + ((x :: r).length : Int) = t + 1 + (r.length : Int) by simp; omega]
  exact h2
theorem Cnt.weak {l : List S40} {L c : List Int} {t t' : Int} (h : Cnt l L c t) (ht : t ≤ t') : Cnt l L c t' := ⟨h.lenL, h.lenC, h.same, h.one, fun i hi => ⟨(h.low i hi).1, Int.le_trans (h.low i hi).2 ht⟩, h.free⟩
theorem Cnt.all {l : List S40} (hl : l.length ≤ 64) (hn : ∀ j, j < l.length → (zak l (j : Int)).f2.length ≤ 64 ∧ ∀ x ∈ (zak l (j : Int)).f2, zb4 l x) : ∀ (d i : Nat) {L c : List Int}, i + d = l.length → Cnt l L c (64 * i) → Cnt l (bumps l d i L) (bumps l d i c) (64 * l.length)
 | 0, i, L, c, h, hc => by rw [show (64 : Int) * l.length = 64 * i by omega]; exact hc
 | d + 1, i, L, c, h, hc => by
  have hi := hn i (by omega)
  have h1 := Cnt.fold hl (zak l (i : Int)).f2 hc (by omega) hi.2
  exact Cnt.all hl hn d (i + 1) (by omega) (h1.weak (by omega))
theorem Cnt.start {l : List S40} (hl : l.length ≤ 64) (h0 : (zak l 0).f0 = 2) : Cnt l (List.replicate l.length 0) ((List.replicate 64 0).set 0 1) 0 := by
 have hz : ∀ (n i : Nat), rd (List.replicate n 0) (i : Int) = 0 := fun n i => by
  unfold rd; rw [Int.toNat_natCast, List.getD_eq_getElem?_getD, List.getElem?_replicate]; split <;> rfl
 have hs : ∀ i : Nat, rd ((List.replicate 64 (0 : Int)).set 0 1) (i : Int) = if 0 = i then 1 else 0 := fun i => by rw [rd_set _ _ _ _ (by simp), hz]
 refine ⟨by simp, by simp, fun i h1 h2 => ?_, ?_, fun i _ => ?_, fun i _ _ => hz _ _⟩
 ·rw [hs, hz, if_neg (by omega)]
 ·rw [hs, if_pos rfl]
 ·rw [hz]; omega
theorem head_parts {l : List S40} (h : zbX l = true) : 0 < l.length ∧ l.length ≤ 64 ∧ (zak l 0).f0 = 2 ∧ (zak l 0).f4 = 1 := by
 unfold zbX at h
 simp only [Bool.and_eq_true, decide_eq_true_eq, beq_iff_eq] at h
 exact ⟨h.1.1.1.1, h.1.1.1.2, h.1.2, h.2⟩
theorem may_both (l : List S40) (hf : Fits l) : ∃ m : Bool, Ev (fun k => za2.f k l) m ∧ Ev (fun k => zar.f k l) m := by
 by_cases hh' : ¬ zbX l = true
 ·exact ⟨false, Ev.congr (fun k => by unfold za2.f; rw [if_neg hh']) (Ev.now false), Ev.congr (fun k => by unfold zar.f; rw [if_neg hh']) (Ev.now false)⟩
 have hh := Decidable.not_not.1 hh'
 obtain ⟨h0, hl, hk0, hl0⟩ := head_parts hh
 have hT : nodesB l l.length = true ↔ ∀ j, j < l.length → zcr (zak l (j : Int)) ∧ ∀ x ∈ (zak l (j : Int)).f2, zb4 l x := by
  unfold nodesB
  rw [List.all_eq_true]
  constructor
  ·intro h j hj
   have h1 := (tree_node_ok l _ (fits_at hf j hj).1).1 (h j (List.mem_range.2 hj))
   refine ⟨h1.1, ?_⟩
   by_cases hk : (zak l (j : Int)).f0 = 2
   ·exact names_mem.2 (h1.2.2 hk)
   ·have : (zak l (j : Int)).f2 = [] := by
     rcases h1.1 with h | h | h | h
     ·rw [h.2]; rfl
     ·exact h.2.2.2.1
     ·exact absurd h.1 hk
     ·exact h.2.2.2.2.2.2
    rw [this]; simp
  ·intro h j hj
   have hj := List.mem_range.1 hj
   exact (tree_node_ok l _ (fits_at hf j hj).1).2 ⟨(h j hj).1, fun _ => trivial, fun _ => names_mem.1 (h j hj).2⟩
 by_cases hA' : ¬ (∀ j, j < l.length → zcr (zak l (j : Int)) ∧ ∀ x ∈ (zak l (j : Int)).f2, zb4 l x)
 ·have hN : ¬ AllR l 0 := fun h => hA' fun j hj => ⟨(h j (Nat.zero_le _) hj).1.1, (h j (Nat.zero_le _) hj).2⟩
  refine ⟨false, Ev.congr (fun k => by unfold za2.f; rw [if_pos hh, if_neg (fun h => hA' (hT.1 h))]) (Ev.now false), Ev.congr (fun k => by unfold zar.f; rw [if_pos hh]) (Ev.bind (f := fun k o => mayE l k o) (cNodes_no l hf l.length 0 _ (by omega) hN) (Ev.now false))⟩
 have hA := Classical.not_not.1 hA'
 have hr : InRange l := fun n hn x hx => by have := (hA n hn).2 x hx; exact ⟨by have := this.1; omega, this.2.1⟩
 have hn : ∀ j, j < l.length → (zak l (j : Int)).f2.length ≤ 64 ∧ ∀ x ∈ (zak l (j : Int)).f2, zb4 l x := fun j hj => ⟨by
  rcases (hA j hj).1 with h | h | h | h
  ·rw [h.2]; exact Nat.zero_le _
  ·rw [h.2.2.2.1]; exact Nat.zero_le _
  ·exact h.2.2.1
  ·rw [h.2.2.2.2.2.2]; exact Nat.zero_le _, (hA j hj).2⟩
 obtain ⟨R, hR, hRl, hRs⟩ := reached_tree l h0 hl hk0 hr
 have hRe : Ev (fun k => zaF.f k l) R := Ev.of (fun k => zaF.mono _ _) hR
 have hLe := links_ev l hl hf hr
 have hC := Cnt.all hl hn l.length 0 (by omega) (show Cnt l (List.replicate l.length 0) ((List.replicate 64 0).set 0 1) (64 * ((0 : Nat) : Int)) from Cnt.start hl hk0)
 obtain ⟨L, hLd⟩ : ∃ L, L = bumps l l.length 0 (List.replicate l.length 0) := ⟨_, rfl⟩
 obtain ⟨c, hcd⟩ : ∃ c, c = bumps l l.length 0 ((List.replicate 64 0).set 0 1) := ⟨_, rfl⟩
 rw [← hLd] at hLe hC
 rw [← hcd] at hC
 have hTree : Ev (fun k => za2.f k l) (lastB l L R l.length) :=
  Ev.congr (fun k => by unfold za2.f; rw [if_pos hh, if_pos (hT.2 hA)]) (Ev.bind (f := fun k L => (zaF.f k l).bind fun R => if L.length = l.length ∧ R.length = l.length then some (lastB l L R l.length) else none) hLe (Ev.bind (f := fun _ R => if L.length = l.length ∧ R.length = l.length then some (lastB l L R l.length) else none) hRe (Ev.congr (fun _ => if_pos ⟨hC.lenL, hRl⟩) (Ev.now _))))
 refine ⟨_, hTree, ?_⟩
 by_cases hB : AllR l 0
 ·have hcn := cNodes_ok l hf l.length 0 ((List.replicate 64 0).set 0 1) (by omega) hB
  rw [← hcd] at hcn
  obtain ⟨S, hS, hSs⟩ := reached_page l hl hr
  have hRp : Ev (fun k => zaz.f k l) (allSeen l S l.length) := Ev.of (fun k => zaz.mono _ _) (k := 66) (by unfold zaz.f; rw [if_pos hl, hS]; rfl)
  have key : ∀ j, j < l.length → (zbr l L R j = false ↔ badR l c j = false ∧ zcu l S j = false) := by
   intro j hj
   have hRj : rdOf false R (j : Int) = true ↔ rdOf false S (j : Int) = true := (hRs j).trans (hSs j).symm
   have hRb : rdOf false R (j : Int) = rdOf false S (j : Int) := Bool.eq_iff_iff.2 hRj
   by_cases e : j = 0
   ·subst e
    have hs0 : rdOf false S ((0 : Nat) : Int) = true := (hSs 0).2 .root
    have hk0' : (zak l ((0 : Nat) : Int)).f0 = 2 := hk0
    have hl0' : (zak l ((0 : Nat) : Int)).f4 = 1 := hl0
    have e1 : zbr l L R 0 = false := by unfold zbr; rfl
    have e2 : badR l c 0 = false := by unfold badR; rw [hk0', hl0', hC.one]; rfl
    have e3 : zcu l S 0 = false := by unfold zcu; rw [hk0', hl0', hs0]; rfl
    exact ⟨fun _ => ⟨e2, e3⟩, fun _ => e1⟩
   ·have hs := hC.same j (by omega) hj
    have hlo := hC.low j hj
    have hfr := hC.free j hj
    have hNP := (hA j hj).1
    have hL' : rdOf 0 L (j : Int) = rd L (j : Int) := rfl
    unfold zbr badR zcu
    rw [decide_eq_true (show 0 < j by omega), hL', hRb, hs, Bool.true_and]
    have hz : (zak l (j : Int)).f0 = 0 → (zak l (j : Int)).f4 = 0 := fun h => by
     rcases hNP with h1 | h1 | h1 | h1
     ·rw [h1.2]; rfl
     all_goals (have := h1.1; omega)
    cases rdOf false S (j : Int) <;> by_cases q0 : (zak l (j : Int)).f0 = 0 <;> by_cases q2 : (zak l (j : Int)).f0 = 2 <;> by_cases q4 : (zak l (j : Int)).f4 = rd L (j : Int) <;> by_cases q5 : (zak l (j : Int)).f4 = 1 <;> simp_all
  refine Ev.congr (fun k => by unfold zar.f; rw [if_pos hh]) (Ev.bind (f := fun k o => mayE l k o) hcn ?_)
  by_cases hg : goodR l c l.length = true
  ·refine Ev.congr (fun k => show (if goodR l c l.length = true then zaz.f k l else some false) = _ from if_pos hg) ?_
   have e : lastB l L R l.length = allSeen l S l.length := by
    rw [Bool.eq_iff_iff]
    unfold lastB allSeen
    unfold goodR at hg
    simp only [List.all_eq_true, List.mem_range, Bool.not_eq_true'] at hg ⊢
    exact ⟨fun h j hj => ((key j hj).1 (h j hj)).2, fun h j hj => (key j hj).2 ⟨hg j hj, h j hj⟩⟩
   rw [e]; exact hRp
  ·refine Ev.congr (fun k => show (if goodR l c l.length = true then zaz.f k l else some false) = _ from if_neg hg) ?_
   have e : lastB l L R l.length = false := by
    rw [Bool.eq_false_iff]
    intro h
    apply hg
    unfold lastB at h
    unfold goodR
    simp only [List.all_eq_true, List.mem_range, Bool.not_eq_true'] at h ⊢
    exact fun j hj => ((key j hj).1 (h j hj)).1
   rw [e]; exact Ev.now _
 ·refine Ev.congr (fun k => by unfold zar.f; rw [if_pos hh]) (Ev.bind (f := fun k o => mayE l k o) (cNodes_no l hf l.length 0 _ (by omega) hB) ?_)
  have e : lastB l L R l.length = false := by
   rw [Bool.eq_false_iff]
   intro h
   apply hB
   intro j _ hj
   refine ⟨⟨(hA j hj).1, fun hk => ?_⟩, (hA j hj).2⟩
   unfold lastB at h
   simp only [List.all_eq_true, List.mem_range, Bool.not_eq_true'] at h
   have hb := h j hj
   by_cases e : j = 0
   ·subst e; rw [show (zak l ((0 : Nat) : Int)).f4 = 1 from hl0]; omega
   ·unfold zbr at hb
    rw [decide_eq_true (show 0 < j by omega), Bool.true_and, Bool.or_eq_false_iff, bne_eq_false_iff_eq] at hb
    rw [hb.1]; exact (hC.low j hj).1
  rw [e]; exact Ev.now _
def zaS.l0 : Nat → Int → Int → List (S40) → Option (Bool)
 | 0, _, _, _ => none
 | k + 1, x3, x4, x102000 => if x4 < (x102000.length : Int) then (if 0 ≤ x4 then (zaS.l0 k (wrap64 ((wrap64 ((wrap64 (x3 + (wrap64 (30 * (((zak x102000 x4).f2).length : Int))))) + (((zak x102000 x4).f1).length : Int))) + (((zak x102000 x4).f3).size : Int))) (wrap64 (x4 + 1)) x102000) else (none)) else (some (decide (x3 > 60000)))
def zaS.f (k : Nat) (l0_0 : List (S40)) : Option (Bool) := if (l0_0.length : Int) > 100 then (some true) else (zaS.l0 k 0 0 l0_0)
set_option maxHeartbeats 8000000 in
set_option maxRecDepth 100000 in
theorem zaS.calls (k : Nat) (A0_0 : Option Addr) (c0_0 : Nat) (l0_0 : List (S40)) (r : Bool) (w : World) (hr0_0 : Kd.C k40 w A0_0 l0_0.length l0_0) (hc0_0 : l0_0.length ≤ c0_0) (h : zaS.f k l0_0 = some r) :
  Calls Tryz.prog 21 #[.agg #[.slice A0_0 l0_0.length c0_0]] w fun e w' => e = .returned (.bool r) ∧ Below w.heap.size w w' := by
 have hu24 := Tryz.underlying24
 have HR0_0 := zab.mk hr0_0
 have HC0_0 := zab.mk hc0_0
 clear hr0_0 hc0_0
 have HB := zab.mk (Below.refl w.heap.size w)
 have H : (if (l0_0.length : Int) > 100 then (some true) else (zaS.l0 k 0 0 l0_0)) = some r := h
 clear h
 by_cases c2 : (l0_0.length : Int) > 100
 ·rw [if_pos c2] at H
  have c2b0 : decide (100 < (l0_0.length : Int)) = true := decide_eq_true c2
  have c2b1 : decide (100 < l0_0.length) = true := decide_eq_true (by omega)
  clear c2
  obtain rfl := Option.some.inj H
  go_enter Tryz.func21, Tryz.ntmps21
  go_wp2_with (first | ((with_reducible refine zaY (N := 1) rfl ?_); refine zaN ?hg (N := 1) ?hd (cs := #[.slice A0_0 l0_0.length c0_0]) (t := 24) ?hr ?_; (case hd => rfl); (case hg => rfl); (case hr => first | (go_simp; done) | (go_simp; rfl)); intro gb101 hg w3 hbox hb; have n0_ := zab.mk (zan (by repeat (first | (with_reducible first | exact HB.out | apply zad | apply zac | apply zaf) | exact HB.out)) hb); have n1_ := zab.mk (hbox); have n2_ := zab.mk ((by rw [hg]; exact (zaq (by repeat (first | (with_reducible first | exact HB.out | apply zad | apply zac | apply zaf) | exact HB.out))) : w.heap.size ≤ gb101)); have n3_ := zab.mk ((by rw [hg]; exact (zaq (by repeat (first | (with_reducible first | exact HB.out | apply zad | apply zac | apply zaf) | exact HB.out))) : w.heap.size ≤ gb101)); clear HB; have HB := n0_; have BK101 := n1_; have GW101 := n2_; have GE101 := n3_; clear n0_ n1_ n2_ n3_; clear hb hbox hg; have hcz4_0 : w3.cell? ⟨gb101, 0, none⟩ = some (.slice A0_0 l0_0.length c0_0) := (zaa BK101.out 0).trans rfl; have hfz4_0 := zai BK101.out 0))
  repeat (go_quiet (first | ((with_reducible refine zaY (N := 1) rfl ?_); refine zaN ?hg (N := 1) ?hd (cs := #[.slice A0_0 l0_0.length c0_0]) (t := 24) ?hr ?_; (case hd => rfl); (case hg => rfl); (case hr => first | (go_simp; done) | (go_simp; rfl)); intro gb101 hg w3 hbox hb; have n0_ := zab.mk (zan (by repeat (first | (with_reducible first | exact HB.out | apply zad | apply zac | apply zaf) | exact HB.out)) hb); have n1_ := zab.mk (hbox); have n2_ := zab.mk ((by rw [hg]; exact (zaq (by repeat (first | (with_reducible first | exact HB.out | apply zad | apply zac | apply zaf) | exact HB.out))) : w.heap.size ≤ gb101)); have n3_ := zab.mk ((by rw [hg]; exact (zaq (by repeat (first | (with_reducible first | exact HB.out | apply zad | apply zac | apply zaf) | exact HB.out))) : w.heap.size ≤ gb101)); clear HB; have HB := n0_; have BK101 := n1_; have GW101 := n2_; have GE101 := n3_; clear n0_ n1_ n2_ n3_; clear hb hbox hg; have hcz4_0 : w3.cell? ⟨gb101, 0, none⟩ = some (.slice A0_0 l0_0.length c0_0) := (zaa BK101.out 0).trans rfl; have hfz4_0 := zai BK101.out 0)); try go_wp2_with (first | ((with_reducible refine zaY (N := 1) rfl ?_); refine zaN ?hg (N := 1) ?hd (cs := #[.slice A0_0 l0_0.length c0_0]) (t := 24) ?hr ?_; (case hd => rfl); (case hg => rfl); (case hr => first | (go_simp; done) | (go_simp; rfl)); intro gb101 hg w3 hbox hb; have n0_ := zab.mk (zan (by repeat (first | (with_reducible first | exact HB.out | apply zad | apply zac | apply zaf) | exact HB.out)) hb); have n1_ := zab.mk (hbox); have n2_ := zab.mk ((by rw [hg]; exact (zaq (by repeat (first | (with_reducible first | exact HB.out | apply zad | apply zac | apply zaf) | exact HB.out))) : w.heap.size ≤ gb101)); have n3_ := zab.mk ((by rw [hg]; exact (zaq (by repeat (first | (with_reducible first | exact HB.out | apply zad | apply zac | apply zaf) | exact HB.out))) : w.heap.size ≤ gb101)); clear HB; have HB := n0_; have BK101 := n1_; have GW101 := n2_; have GE101 := n3_; clear n0_ n1_ n2_ n3_; clear hb hbox hg; have hcz4_0 : w3.cell? ⟨gb101, 0, none⟩ = some (.slice A0_0 l0_0.length c0_0) := (zaa BK101.out 0).trans rfl; have hfz4_0 := zai BK101.out 0)))
  go_ret
  exact ⟨by first | rfl | (simp [zaw, zav] <;> rfl) | (simp [*, zaw, zav] <;> rfl), by repeat (first | (with_reducible first | exact HB.out | apply zad | apply zac | apply zaf | refine zam ?_ GE101.out) | exact HB.out)⟩
 ·rw [if_neg c2] at H
  have c2b0 : decide (100 < (l0_0.length : Int)) = false := decide_eq_false c2
  have c2b1 : decide (100 < l0_0.length) = false := decide_eq_false (by omega)
  clear c2
  have H' := zab.mk H
  clear H
  go_enter Tryz.func21, Tryz.ntmps21
  go_wp2_with (first | ((with_reducible refine zaY (N := 1) rfl ?_); refine zaN ?hg (N := 1) ?hd (cs := #[.slice A0_0 l0_0.length c0_0]) (t := 24) ?hr ?_; (case hd => rfl); (case hg => rfl); (case hr => first | (go_simp; done) | (go_simp; rfl)); intro gb101 hg w5 hbox hb; have n0_ := zab.mk (zan (by repeat (first | (with_reducible first | exact HB.out | apply zad | apply zac | apply zaf) | exact HB.out)) hb); have n1_ := zab.mk (hbox); have n2_ := zab.mk ((by rw [hg]; exact (zaq (by repeat (first | (with_reducible first | exact HB.out | apply zad | apply zac | apply zaf) | exact HB.out))) : w.heap.size ≤ gb101)); have n3_ := zab.mk ((by rw [hg]; exact (zaq (by repeat (first | (with_reducible first | exact HB.out | apply zad | apply zac | apply zaf) | exact HB.out))) : w.heap.size ≤ gb101)); clear HB; have HB := n0_; have BK101 := n1_; have GW101 := n2_; have GE101 := n3_; clear n0_ n1_ n2_ n3_; clear hb hbox hg; have hcz6_0 : w5.cell? ⟨gb101, 0, none⟩ = some (.slice A0_0 l0_0.length c0_0) := (zaa BK101.out 0).trans rfl; have hfz6_0 := zai BK101.out 0))
  repeat (go_quiet (first | ((with_reducible refine zaY (N := 1) rfl ?_); refine zaN ?hg (N := 1) ?hd (cs := #[.slice A0_0 l0_0.length c0_0]) (t := 24) ?hr ?_; (case hd => rfl); (case hg => rfl); (case hr => first | (go_simp; done) | (go_simp; rfl)); intro gb101 hg w5 hbox hb; have n0_ := zab.mk (zan (by repeat (first | (with_reducible first | exact HB.out | apply zad | apply zac | apply zaf) | exact HB.out)) hb); have n1_ := zab.mk (hbox); have n2_ := zab.mk ((by rw [hg]; exact (zaq (by repeat (first | (with_reducible first | exact HB.out | apply zad | apply zac | apply zaf) | exact HB.out))) : w.heap.size ≤ gb101)); have n3_ := zab.mk ((by rw [hg]; exact (zaq (by repeat (first | (with_reducible first | exact HB.out | apply zad | apply zac | apply zaf) | exact HB.out))) : w.heap.size ≤ gb101)); clear HB; have HB := n0_; have BK101 := n1_; have GW101 := n2_; have GE101 := n3_; clear n0_ n1_ n2_ n3_; clear hb hbox hg; have hcz6_0 : w5.cell? ⟨gb101, 0, none⟩ = some (.slice A0_0 l0_0.length c0_0) := (zaa BK101.out 0).trans rfl; have hfz6_0 := zai BK101.out 0)); try go_wp2_with (first | ((with_reducible refine zaY (N := 1) rfl ?_); refine zaN ?hg (N := 1) ?hd (cs := #[.slice A0_0 l0_0.length c0_0]) (t := 24) ?hr ?_; (case hd => rfl); (case hg => rfl); (case hr => first | (go_simp; done) | (go_simp; rfl)); intro gb101 hg w5 hbox hb; have n0_ := zab.mk (zan (by repeat (first | (with_reducible first | exact HB.out | apply zad | apply zac | apply zaf) | exact HB.out)) hb); have n1_ := zab.mk (hbox); have n2_ := zab.mk ((by rw [hg]; exact (zaq (by repeat (first | (with_reducible first | exact HB.out | apply zad | apply zac | apply zaf) | exact HB.out))) : w.heap.size ≤ gb101)); have n3_ := zab.mk ((by rw [hg]; exact (zaq (by repeat (first | (with_reducible first | exact HB.out | apply zad | apply zac | apply zaf) | exact HB.out))) : w.heap.size ≤ gb101)); clear HB; have HB := n0_; have BK101 := n1_; have GW101 := n2_; have GE101 := n3_; clear n0_ n1_ n2_ n3_; clear hb hbox hg; have hcz6_0 : w5.cell? ⟨gb101, 0, none⟩ = some (.slice A0_0 l0_0.length c0_0) := (zaa BK101.out 0).trans rfl; have hfz6_0 := zai BK101.out 0)))
  go_loopg [3, 4] k (fun kq v3 v4 w' => ∃ (x3_1 : Int) (x4_1 : Int), v3 = .int .i64 x3_1 ∧ v4 = .int .i64 x4_1 ∧ zab (zaS.l0 kq x3_1 x4_1 l0_0 = some r) ∧ zab (kq ≤ k) ∧ zab (w'.heap[gb101]? = some (.cells #[(.slice A0_0 l0_0.length c0_0)] 24 (0, 0))) ∧ zab (Below w.heap.size w w'))
  case atStart => exact ⟨(0), (0), (by first | rfl | (simp; done) | (simp [*]; done)), (by first | rfl | (simp; done) | (simp [*]; done)), H', ⟨Nat.le_refl _⟩, ⟨by (with_reducible repeat (first | refine zah ?_ _ | refine zaj ?_ | refine zae ?_ _)); exact BK101.out⟩, ⟨by repeat (first | (with_reducible first | exact HB.out | apply zad | apply zac | apply zaf | refine zam ?_ GE101.out) | exact HB.out)⟩⟩
  case round =>
   clear H'
   try clear c2
   try clear c2b0
   try clear c2b1
   try clear p2
   try clear hcz4_0
   try clear hcz6_0
   try clear hfz4_0
   try clear hfz6_0
   obtain ⟨x3_1, x4_1, rfl, rfl, HA, HK1, BK101, HB⟩ := hrel
   cases gk with
   | zero => exact absurd HA.out (by simp [zaS.l0])
   | succ k1 =>
    have H := HA.out
    clear HA
    simp only [zaS.l0] at H
    by_cases c7 : x4_1 < (l0_0.length : Int)
    ·rw [if_pos c7] at H
     have c7b0 : decide (x4_1 < (l0_0.length : Int)) = true := decide_eq_true c7
     clear c7
     by_cases c8 : 0 ≤ x4_1
     ·rw [if_pos c8] at H
      have c8b0 : decide (0 ≤ x4_1) = true := decide_eq_true c8
      clear c8
      have H' := zab.mk H
      clear H
      have hcz9_0 : wr.cell? ⟨gb101, 0, none⟩ = some (.slice A0_0 l0_0.length c0_0) := (zaa BK101.out 0).trans rfl
      have hfz9_0 := zai BK101.out 0
      have p102 : 0 ≤ (x4_1 : Int) := of_decide_eq_true (by first | (with_reducible assumption) | assumption)
      have q102 : x4_1 < (l0_0.length : Int) := of_decide_eq_true (by first | (with_reducible assumption) | assumption)
      obtain ⟨ad102, A102_1, c102_1, A102_2, c102_2, e102, hx102_0, hx102_1, hx102_2, hx102_3, hx102_4, hx102_5, hl102_1, hi102_1, hl102_2, hi102_2⟩ := zbl HR0_0.out x4_1 p102 q102
      cases e102
      replace hx102_0 := (HB.out.cell (World.block_lt_of_cell? w _ hx102_0)).trans hx102_0
      replace hx102_1 := (HB.out.cell (World.block_lt_of_cell? w _ hx102_1)).trans hx102_1
      replace hx102_2 := (HB.out.cell (World.block_lt_of_cell? w _ hx102_2)).trans hx102_2
      replace hx102_3 := (HB.out.cell (World.block_lt_of_cell? w _ hx102_3)).trans hx102_3
      replace hx102_4 := (HB.out.cell (World.block_lt_of_cell? w _ hx102_4)).trans hx102_4
      replace hx102_5 := (HB.out.cell (World.block_lt_of_cell? w _ hx102_5)).trans hx102_5
      have HR102_1 := zab.mk hi102_1
      have HC102_1 := zab.mk hl102_1
      clear hi102_1 hl102_1
      have HR102_2 := zab.mk hi102_2
      have HC102_2 := zab.mk hl102_2
      clear hi102_2 hl102_2
      replace p102 := eq_true p102
      replace q102 := eq_true q102
      have p103 : 0 ≤ (x4_1 : Int) := of_decide_eq_true (by first | (with_reducible assumption) | assumption)
      have q103 : x4_1 < (l0_0.length : Int) := of_decide_eq_true (by first | (with_reducible assumption) | assumption)
      obtain ⟨ad103, A103_1, c103_1, A103_2, c103_2, e103, hx103_0, hx103_1, hx103_2, hx103_3, hx103_4, hx103_5, hl103_1, hi103_1, hl103_2, hi103_2⟩ := zbl HR0_0.out x4_1 p103 q103
      obtain rfl : ad102 = ad103 := (by injection e103)
      replace hx103_0 := (HB.out.cell (World.block_lt_of_cell? w _ hx103_0)).trans hx103_0
      replace hx103_1 := (HB.out.cell (World.block_lt_of_cell? w _ hx103_1)).trans hx103_1
      replace hx103_2 := (HB.out.cell (World.block_lt_of_cell? w _ hx103_2)).trans hx103_2
      replace hx103_3 := (HB.out.cell (World.block_lt_of_cell? w _ hx103_3)).trans hx103_3
      replace hx103_4 := (HB.out.cell (World.block_lt_of_cell? w _ hx103_4)).trans hx103_4
      replace hx103_5 := (HB.out.cell (World.block_lt_of_cell? w _ hx103_5)).trans hx103_5
      have HR103_1 := zab.mk hi103_1
      have HC103_1 := zab.mk hl103_1
      clear hi103_1 hl103_1
      have HR103_2 := zab.mk hi103_2
      have HC103_2 := zab.mk hl103_2
      clear hi103_2 hl103_2
      replace p103 := eq_true p103
      replace q103 := eq_true q103
      have ea_ := Option.some.inj (hx102_1.symm.trans hx103_1)
      injection ea_ with ea_ en_ ec_
      subst ea_
      subst ec_
      clear en_
      have ea_ := Option.some.inj (hx102_2.symm.trans hx103_2)
      injection ea_ with ea_ en_ ec_
      subst ea_
      subst ec_
      clear en_
      have p104 : 0 ≤ (x4_1 : Int) := of_decide_eq_true (by first | (with_reducible assumption) | assumption)
      have q104 : x4_1 < (l0_0.length : Int) := of_decide_eq_true (by first | (with_reducible assumption) | assumption)
      obtain ⟨ad104, A104_1, c104_1, A104_2, c104_2, e104, hx104_0, hx104_1, hx104_2, hx104_3, hx104_4, hx104_5, hl104_1, hi104_1, hl104_2, hi104_2⟩ := zbl HR0_0.out x4_1 p104 q104
      obtain rfl : ad102 = ad104 := (by injection e104)
      replace hx104_0 := (HB.out.cell (World.block_lt_of_cell? w _ hx104_0)).trans hx104_0
      replace hx104_1 := (HB.out.cell (World.block_lt_of_cell? w _ hx104_1)).trans hx104_1
      replace hx104_2 := (HB.out.cell (World.block_lt_of_cell? w _ hx104_2)).trans hx104_2
      replace hx104_3 := (HB.out.cell (World.block_lt_of_cell? w _ hx104_3)).trans hx104_3
      replace hx104_4 := (HB.out.cell (World.block_lt_of_cell? w _ hx104_4)).trans hx104_4
      replace hx104_5 := (HB.out.cell (World.block_lt_of_cell? w _ hx104_5)).trans hx104_5
      have HR104_1 := zab.mk hi104_1
      have HC104_1 := zab.mk hl104_1
      clear hi104_1 hl104_1
      have HR104_2 := zab.mk hi104_2
      have HC104_2 := zab.mk hl104_2
      clear hi104_2 hl104_2
      replace p104 := eq_true p104
      replace q104 := eq_true q104
      have ea_ := Option.some.inj (hx102_1.symm.trans hx104_1)
      injection ea_ with ea_ en_ ec_
      subst ea_
      subst ec_
      clear en_
      have ea_ := Option.some.inj (hx102_2.symm.trans hx104_2)
      injection ea_ with ea_ en_ ec_
      subst ea_
      subst ec_
      clear en_
      go_wp2
      repeat (go_quiet (fail); try go_wp2)
      go_roundg k1
      case measure => have := HK1.out; omega
      case rel => exact ⟨(wrap64 ((wrap64 ((wrap64 (x3_1 + (wrap64 (30 * (((zak l0_0 x4_1).f2).length : Int))))) + (((zak l0_0 x4_1).f1).length : Int))) + (((zak l0_0 x4_1).f3).size : Int))), (wrap64 (x4_1 + 1)), (by first | rfl | (simp; done) | (simp [*]; done)), (by first | rfl | (simp; done) | (simp [*]; done)), H', ⟨by have := HK1.out; omega⟩, ⟨by (with_reducible repeat (first | refine zah ?_ _ | refine zaj ?_ | refine zae ?_ _)); exact BK101.out⟩, ⟨by repeat (first | (with_reducible first | exact HB.out | apply zad | apply zac | apply zaf | refine zam ?_ GE101.out) | exact HB.out)⟩⟩
     ·rw [if_neg c8] at H
      exact absurd H (by simp)
    ·rw [if_neg c7] at H
     have c7b0 : decide (x4_1 < (l0_0.length : Int)) = false := decide_eq_false c7
     clear c7
     obtain rfl := Option.some.inj H
     have hcz10_0 : wr.cell? ⟨gb101, 0, none⟩ = some (.slice A0_0 l0_0.length c0_0) := (zaa BK101.out 0).trans rfl
     have hfz10_0 := zai BK101.out 0
     go_wp2
     repeat (go_quiet (fail); try go_wp2)
     go_ret
     exact ⟨by first | rfl | (simp [zaw, zav] <;> rfl) | (simp [*, zaw, zav] <;> rfl), by repeat (first | (with_reducible first | exact HB.out | apply zad | apply zac | apply zaf | refine zam ?_ GE101.out) | exact HB.out)⟩
def za6.l0 : Nat → Int → Int → List (S40) → List (S44) → Option (Bool)
 | 0, _, _, _, _ => none
 | k + 1, x3, x4, x106000, x106001 => if x4 < (x106001.length : Int) then (if x4 < 14 then (if 0 ≤ x4 then (za6.l0 k (wrap64 ((wrap64 ((wrap64 (x3 + (((za7 x106001 x4).f10).length : Int))) + (((za7 x106001 x4).f4).size : Int))) + (((za7 x106001 x4).f5).size : Int))) (wrap64 (x4 + 1)) x106000 x106001) else (none)) else (if x3 > 40000 then (some true) else ((zaS.f k x106000).bind fun t109 => (some t109)))) else (if x3 > 40000 then (some true) else ((zaS.f k x106000).bind fun t110 => (some t110)))
def za6.f (k : Nat) (l0_0 : List (S40)) (l0_1 : List (S44)) : Option (Bool) := za6.l0 k 0 0 l0_0 l0_1
set_option maxHeartbeats 8000000 in
set_option maxRecDepth 100000 in
theorem za6.calls (k : Nat) (A0_0 : Option Addr) (c0_0 : Nat) (l0_0 : List (S40)) (A0_1 : Option Addr) (c0_1 : Nat) (l0_1 : List (S44)) (r : Bool) (w : World) (hr0_0 : Kd.C k40 w A0_0 l0_0.length l0_0) (hc0_0 : l0_0.length ≤ c0_0) (hr0_1 : Kd.C k44 w A0_1 l0_1.length l0_1) (hc0_1 : l0_1.length ≤ c0_1) (h : za6.f k l0_0 l0_1 = some r) :
  Calls Tryz.prog 12 #[.agg #[.slice A0_0 l0_0.length c0_0, .slice A0_1 l0_1.length c0_1]] w fun e w' => e = .returned (.bool r) ∧ Below w.heap.size w w' := by
 have hu27 := Tryz.underlying27
 have hu24 := Tryz.underlying24
 have HR0_0 := zab.mk hr0_0
 have HC0_0 := zab.mk hc0_0
 clear hr0_0 hc0_0
 have HR0_1 := zab.mk hr0_1
 have HC0_1 := zab.mk hc0_1
 clear hr0_1 hc0_1
 have HB := zab.mk (Below.refl w.heap.size w)
 have H : (za6.l0 k 0 0 l0_0 l0_1) = some r := h
 clear h
 have H' := zab.mk H
 clear H
 go_enter Tryz.func12, Tryz.ntmps12
 go_wp2_with (first | ((with_reducible refine zaY (N := 1) rfl ?_); refine zaN ?hg (N := 1) ?hd (cs := #[.slice A0_0 l0_0.length c0_0, .slice A0_1 l0_1.length c0_1]) (t := 27) ?hr ?_; (case hd => rfl); (case hg => rfl); (case hr => first | (go_simp; done) | (go_simp; rfl)); intro gb105 hg w2 hbox hb; have n0_ := zab.mk (zan (by repeat (first | (with_reducible first | exact HB.out | apply zad | apply zac | apply zaf) | exact HB.out)) hb); have n1_ := zab.mk (hbox); have n2_ := zab.mk ((by rw [hg]; exact (zaq (by repeat (first | (with_reducible first | exact HB.out | apply zad | apply zac | apply zaf) | exact HB.out))) : w.heap.size ≤ gb105)); have n3_ := zab.mk ((by rw [hg]; exact (zaq (by repeat (first | (with_reducible first | exact HB.out | apply zad | apply zac | apply zaf) | exact HB.out))) : w.heap.size ≤ gb105)); clear HB; have HB := n0_; have BK105 := n1_; have GW105 := n2_; have GE105 := n3_; clear n0_ n1_ n2_ n3_; clear hb hbox hg))
 repeat (go_quiet (first | ((with_reducible refine zaY (N := 1) rfl ?_); refine zaN ?hg (N := 1) ?hd (cs := #[.slice A0_0 l0_0.length c0_0, .slice A0_1 l0_1.length c0_1]) (t := 27) ?hr ?_; (case hd => rfl); (case hg => rfl); (case hr => first | (go_simp; done) | (go_simp; rfl)); intro gb105 hg w2 hbox hb; have n0_ := zab.mk (zan (by repeat (first | (with_reducible first | exact HB.out | apply zad | apply zac | apply zaf) | exact HB.out)) hb); have n1_ := zab.mk (hbox); have n2_ := zab.mk ((by rw [hg]; exact (zaq (by repeat (first | (with_reducible first | exact HB.out | apply zad | apply zac | apply zaf) | exact HB.out))) : w.heap.size ≤ gb105)); have n3_ := zab.mk ((by rw [hg]; exact (zaq (by repeat (first | (with_reducible first | exact HB.out | apply zad | apply zac | apply zaf) | exact HB.out))) : w.heap.size ≤ gb105)); clear HB; have HB := n0_; have BK105 := n1_; have GW105 := n2_; have GE105 := n3_; clear n0_ n1_ n2_ n3_; clear hb hbox hg)); try go_wp2_with (first | ((with_reducible refine zaY (N := 1) rfl ?_); refine zaN ?hg (N := 1) ?hd (cs := #[.slice A0_0 l0_0.length c0_0, .slice A0_1 l0_1.length c0_1]) (t := 27) ?hr ?_; (case hd => rfl); (case hg => rfl); (case hr => first | (go_simp; done) | (go_simp; rfl)); intro gb105 hg w2 hbox hb; have n0_ := zab.mk (zan (by repeat (first | (with_reducible first | exact HB.out | apply zad | apply zac | apply zaf) | exact HB.out)) hb); have n1_ := zab.mk (hbox); have n2_ := zab.mk ((by rw [hg]; exact (zaq (by repeat (first | (with_reducible first | exact HB.out | apply zad | apply zac | apply zaf) | exact HB.out))) : w.heap.size ≤ gb105)); have n3_ := zab.mk ((by rw [hg]; exact (zaq (by repeat (first | (with_reducible first | exact HB.out | apply zad | apply zac | apply zaf) | exact HB.out))) : w.heap.size ≤ gb105)); clear HB; have HB := n0_; have BK105 := n1_; have GW105 := n2_; have GE105 := n3_; clear n0_ n1_ n2_ n3_; clear hb hbox hg)))
 go_loopg [3, 4] k (fun kq v3 v4 w' => ∃ (x3_1 : Int) (x4_1 : Int), v3 = .int .i64 x3_1 ∧ v4 = .int .i64 x4_1 ∧ zab (za6.l0 kq x3_1 x4_1 l0_0 l0_1 = some r) ∧ zab (kq ≤ k) ∧ zab (w'.heap[gb105]? = some (.cells #[(.slice A0_0 l0_0.length c0_0), (.slice A0_1 l0_1.length c0_1)] 27 (0, 0))) ∧ zab (Below w.heap.size w w'))
 case atStart => exact ⟨(0), (0), (by first | rfl | (simp; done) | (simp [*]; done)), (by first | rfl | (simp; done) | (simp [*]; done)), H', ⟨Nat.le_refl _⟩, ⟨by (with_reducible repeat (first | refine zah ?_ _ | refine zaj ?_ | refine zae ?_ _)); exact BK105.out⟩, ⟨by repeat (first | (with_reducible first | exact HB.out | apply zad | apply zac | apply zaf | refine zam ?_ GE105.out) | exact HB.out)⟩⟩
 case round =>
  clear H'
  try clear c1
  try clear p2
  obtain ⟨x3_1, x4_1, rfl, rfl, HA, HK1, BK105, HB⟩ := hrel
  cases gk with
  | zero => exact absurd HA.out (by simp [za6.l0])
  | succ k1 =>
   have H := HA.out
   clear HA
   simp only [za6.l0] at H
   by_cases c3 : x4_1 < (l0_1.length : Int)
   ·rw [if_pos c3] at H
    have c3b0 : decide (x4_1 < (l0_1.length : Int)) = true := decide_eq_true c3
    clear c3
    by_cases c4 : x4_1 < 14
    ·rw [if_pos c4] at H
     have c4b0 : decide (x4_1 < 14) = true := decide_eq_true c4
     clear c4
     by_cases c5 : 0 ≤ x4_1
     ·rw [if_pos c5] at H
      have c5b0 : decide (0 ≤ x4_1) = true := decide_eq_true c5
      clear c5
      have H' := zab.mk H
      clear H
      have hcz6_0 : wr.cell? ⟨gb105, 0, none⟩ = some (.slice A0_0 l0_0.length c0_0) := (zaa BK105.out 0).trans rfl
      have hcz6_1 : wr.cell? ⟨gb105, 1, none⟩ = some (.slice A0_1 l0_1.length c0_1) := (zaa BK105.out 1).trans rfl
      have hfz6_0 := zai BK105.out 0
      have hfz6_1 := zai BK105.out 1
      have p106 : 0 ≤ (x4_1 : Int) := of_decide_eq_true (by first | (with_reducible assumption) | assumption)
      have q106 : x4_1 < (l0_1.length : Int) := of_decide_eq_true (by first | (with_reducible assumption) | assumption)
      obtain ⟨ad106, A106_10, c106_10, e106, hx106_0, hx106_1, hx106_2, hx106_3, hx106_4, hx106_5, hx106_6, hx106_7, hx106_8, hx106_9, hx106_10, hx106_11, hl106_10, hi106_10⟩ := at_T44 HR0_1.out x4_1 p106 q106
      cases e106
      replace hx106_0 := (HB.out.cell (World.block_lt_of_cell? w _ hx106_0)).trans hx106_0
      replace hx106_1 := (HB.out.cell (World.block_lt_of_cell? w _ hx106_1)).trans hx106_1
      replace hx106_2 := (HB.out.cell (World.block_lt_of_cell? w _ hx106_2)).trans hx106_2
      replace hx106_3 := (HB.out.cell (World.block_lt_of_cell? w _ hx106_3)).trans hx106_3
      replace hx106_4 := (HB.out.cell (World.block_lt_of_cell? w _ hx106_4)).trans hx106_4
      replace hx106_5 := (HB.out.cell (World.block_lt_of_cell? w _ hx106_5)).trans hx106_5
      replace hx106_6 := (HB.out.cell (World.block_lt_of_cell? w _ hx106_6)).trans hx106_6
      replace hx106_7 := (HB.out.cell (World.block_lt_of_cell? w _ hx106_7)).trans hx106_7
      replace hx106_8 := (HB.out.cell (World.block_lt_of_cell? w _ hx106_8)).trans hx106_8
      replace hx106_9 := (HB.out.cell (World.block_lt_of_cell? w _ hx106_9)).trans hx106_9
      replace hx106_10 := (HB.out.cell (World.block_lt_of_cell? w _ hx106_10)).trans hx106_10
      replace hx106_11 := (HB.out.cell (World.block_lt_of_cell? w _ hx106_11)).trans hx106_11
      have HR106_10 := zab.mk hi106_10
      have HC106_10 := zab.mk hl106_10
      clear hi106_10 hl106_10
      replace p106 := eq_true p106
      replace q106 := eq_true q106
      have p107 : 0 ≤ (x4_1 : Int) := of_decide_eq_true (by first | (with_reducible assumption) | assumption)
      have q107 : x4_1 < (l0_1.length : Int) := of_decide_eq_true (by first | (with_reducible assumption) | assumption)
      obtain ⟨ad107, A107_10, c107_10, e107, hx107_0, hx107_1, hx107_2, hx107_3, hx107_4, hx107_5, hx107_6, hx107_7, hx107_8, hx107_9, hx107_10, hx107_11, hl107_10, hi107_10⟩ := at_T44 HR0_1.out x4_1 p107 q107
      obtain rfl : ad106 = ad107 := (by injection e107)
      replace hx107_0 := (HB.out.cell (World.block_lt_of_cell? w _ hx107_0)).trans hx107_0
      replace hx107_1 := (HB.out.cell (World.block_lt_of_cell? w _ hx107_1)).trans hx107_1
      replace hx107_2 := (HB.out.cell (World.block_lt_of_cell? w _ hx107_2)).trans hx107_2
      replace hx107_3 := (HB.out.cell (World.block_lt_of_cell? w _ hx107_3)).trans hx107_3
      replace hx107_4 := (HB.out.cell (World.block_lt_of_cell? w _ hx107_4)).trans hx107_4
      replace hx107_5 := (HB.out.cell (World.block_lt_of_cell? w _ hx107_5)).trans hx107_5
      replace hx107_6 := (HB.out.cell (World.block_lt_of_cell? w _ hx107_6)).trans hx107_6
      replace hx107_7 := (HB.out.cell (World.block_lt_of_cell? w _ hx107_7)).trans hx107_7
      replace hx107_8 := (HB.out.cell (World.block_lt_of_cell? w _ hx107_8)).trans hx107_8
      replace hx107_9 := (HB.out.cell (World.block_lt_of_cell? w _ hx107_9)).trans hx107_9
      replace hx107_10 := (HB.out.cell (World.block_lt_of_cell? w _ hx107_10)).trans hx107_10
      replace hx107_11 := (HB.out.cell (World.block_lt_of_cell? w _ hx107_11)).trans hx107_11
      have HR107_10 := zab.mk hi107_10
      have HC107_10 := zab.mk hl107_10
      clear hi107_10 hl107_10
      replace p107 := eq_true p107
      replace q107 := eq_true q107
      have ea_ := Option.some.inj (hx106_10.symm.trans hx107_10)
      injection ea_ with ea_ en_ ec_
      subst ea_
      subst ec_
      clear en_
      have p108 : 0 ≤ (x4_1 : Int) := of_decide_eq_true (by first | (with_reducible assumption) | assumption)
      have q108 : x4_1 < (l0_1.length : Int) := of_decide_eq_true (by first | (with_reducible assumption) | assumption)
      obtain ⟨ad108, A108_10, c108_10, e108, hx108_0, hx108_1, hx108_2, hx108_3, hx108_4, hx108_5, hx108_6, hx108_7, hx108_8, hx108_9, hx108_10, hx108_11, hl108_10, hi108_10⟩ := at_T44 HR0_1.out x4_1 p108 q108
      obtain rfl : ad106 = ad108 := (by injection e108)
      replace hx108_0 := (HB.out.cell (World.block_lt_of_cell? w _ hx108_0)).trans hx108_0
      replace hx108_1 := (HB.out.cell (World.block_lt_of_cell? w _ hx108_1)).trans hx108_1
      replace hx108_2 := (HB.out.cell (World.block_lt_of_cell? w _ hx108_2)).trans hx108_2
      replace hx108_3 := (HB.out.cell (World.block_lt_of_cell? w _ hx108_3)).trans hx108_3
      replace hx108_4 := (HB.out.cell (World.block_lt_of_cell? w _ hx108_4)).trans hx108_4
      replace hx108_5 := (HB.out.cell (World.block_lt_of_cell? w _ hx108_5)).trans hx108_5
      replace hx108_6 := (HB.out.cell (World.block_lt_of_cell? w _ hx108_6)).trans hx108_6
      replace hx108_7 := (HB.out.cell (World.block_lt_of_cell? w _ hx108_7)).trans hx108_7
      replace hx108_8 := (HB.out.cell (World.block_lt_of_cell? w _ hx108_8)).trans hx108_8
      replace hx108_9 := (HB.out.cell (World.block_lt_of_cell? w _ hx108_9)).trans hx108_9
      replace hx108_10 := (HB.out.cell (World.block_lt_of_cell? w _ hx108_10)).trans hx108_10
      replace hx108_11 := (HB.out.cell (World.block_lt_of_cell? w _ hx108_11)).trans hx108_11
      have HR108_10 := zab.mk hi108_10
      have HC108_10 := zab.mk hl108_10
      clear hi108_10 hl108_10
      replace p108 := eq_true p108
      replace q108 := eq_true q108
      have ea_ := Option.some.inj (hx106_10.symm.trans hx108_10)
      injection ea_ with ea_ en_ ec_
      subst ea_
      subst ec_
      clear en_
      go_wp2
      repeat (go_quiet (fail); try go_wp2)
      go_roundg k1
      case measure => have := HK1.out; omega
      case rel => exact ⟨(wrap64 ((wrap64 ((wrap64 (x3_1 + (((za7 l0_1 x4_1).f10).length : Int))) + (((za7 l0_1 x4_1).f4).size : Int))) + (((za7 l0_1 x4_1).f5).size : Int))), (wrap64 (x4_1 + 1)), (by first | rfl | (simp; done) | (simp [*]; done)), (by first | rfl | (simp; done) | (simp [*]; done)), H', ⟨by have := HK1.out; omega⟩, ⟨by (with_reducible repeat (first | refine zah ?_ _ | refine zaj ?_ | refine zae ?_ _)); exact BK105.out⟩, ⟨by repeat (first | (with_reducible first | exact HB.out | apply zad | apply zac | apply zaf | refine zam ?_ GE105.out) | exact HB.out)⟩⟩
     ·rw [if_neg c5] at H
      exact absurd H (by simp)
    ·rw [if_neg c4] at H
     have c4b0 : decide (x4_1 < 14) = false := decide_eq_false c4
     clear c4
     by_cases c7 : x3_1 > 40000
     ·rw [if_pos c7] at H
      have c7b0 : decide (40000 < x3_1) = true := decide_eq_true c7
      clear c7
      obtain rfl := Option.some.inj H
      have hcz8_0 : wr.cell? ⟨gb105, 0, none⟩ = some (.slice A0_0 l0_0.length c0_0) := (zaa BK105.out 0).trans rfl
      have hcz8_1 : wr.cell? ⟨gb105, 1, none⟩ = some (.slice A0_1 l0_1.length c0_1) := (zaa BK105.out 1).trans rfl
      have hfz8_0 := zai BK105.out 0
      have hfz8_1 := zai BK105.out 1
      go_wp2
      repeat (go_quiet (fail); try go_wp2)
      go_ret
      exact ⟨by first | rfl | (simp [zaw, zav] <;> rfl) | (simp [*, zaw, zav] <;> rfl), by repeat (first | (with_reducible first | exact HB.out | apply zad | apply zac | apply zaf | refine zam ?_ GE105.out) | exact HB.out)⟩
     ·rw [if_neg c7] at H
      have c7b0 : decide (40000 < x3_1) = false := decide_eq_false c7
      clear c7
      replace H := Option.bind_eq_some_iff.mp H
      obtain ⟨t109, A90, H⟩ := H
      replace H : (some t109) = some r := H
      have A9 := zab.mk A90
      clear A90
      obtain rfl := Option.some.inj H
      have hcz10_0 : wr.cell? ⟨gb105, 0, none⟩ = some (.slice A0_0 l0_0.length c0_0) := (zaa BK105.out 0).trans rfl
      have hcz10_1 : wr.cell? ⟨gb105, 1, none⟩ = some (.slice A0_1 l0_1.length c0_1) := (zaa BK105.out 1).trans rfl
      have hfz10_0 := zai BK105.out 0
      have hfz10_1 := zai BK105.out 1
      go_wp2_with (first | (go_at_call 21; (with_reducible refine (zaS.calls k1 _ _ l0_0 t109 _ ?side1 ?side2 A9.out).mono ?_); (case side1 => repeat (first | exact (Kd.C_below HR0_0.out HB.out) | (with_reducible refine Kd.C_alloc ?_ _) | (with_reducible refine Kd.C_drewN ?_ _) | (with_reducible refine Kd.C_drew ?_))); (case side2 => exact HC0_0.out); rintro e w11 ⟨rfl, hb⟩; have n0_ := zab.mk (zal (g := gb105) (o := .cells #[.slice A0_0 l0_0.length c0_0, .slice A0_1 l0_1.length c0_1] 27 (0, 0)) (by (with_reducible repeat (first | refine zah ?_ _ | refine zaj ?_ | refine zae ?_ _)); exact BK105.out) hb); have n1_ := zab.mk (zan (by repeat (first | (with_reducible first | exact HB.out | apply zad | apply zac | apply zaf | refine zam ?_ GE105.out) | exact HB.out)) hb); clear BK105; clear HB; have BK105 := n0_; have HB := n1_; clear n0_ n1_; (try clear hb); (try clear hb2); (try clear hk); (try clear hi)))
      repeat (go_quiet (first | (go_at_call 21; (with_reducible refine (zaS.calls k1 _ _ l0_0 t109 _ ?side1 ?side2 A9.out).mono ?_); (case side1 => repeat (first | exact (Kd.C_below HR0_0.out HB.out) | (with_reducible refine Kd.C_alloc ?_ _) | (with_reducible refine Kd.C_drewN ?_ _) | (with_reducible refine Kd.C_drew ?_))); (case side2 => exact HC0_0.out); rintro e w11 ⟨rfl, hb⟩; have n0_ := zab.mk (zal (g := gb105) (o := .cells #[.slice A0_0 l0_0.length c0_0, .slice A0_1 l0_1.length c0_1] 27 (0, 0)) (by (with_reducible repeat (first | refine zah ?_ _ | refine zaj ?_ | refine zae ?_ _)); exact BK105.out) hb); have n1_ := zab.mk (zan (by repeat (first | (with_reducible first | exact HB.out | apply zad | apply zac | apply zaf | refine zam ?_ GE105.out) | exact HB.out)) hb); clear BK105; clear HB; have BK105 := n0_; have HB := n1_; clear n0_ n1_; (try clear hb); (try clear hb2); (try clear hk); (try clear hi))); try go_wp2_with (first | (go_at_call 21; (with_reducible refine (zaS.calls k1 _ _ l0_0 t109 _ ?side1 ?side2 A9.out).mono ?_); (case side1 => repeat (first | exact (Kd.C_below HR0_0.out HB.out) | (with_reducible refine Kd.C_alloc ?_ _) | (with_reducible refine Kd.C_drewN ?_ _) | (with_reducible refine Kd.C_drew ?_))); (case side2 => exact HC0_0.out); rintro e w11 ⟨rfl, hb⟩; have n0_ := zab.mk (zal (g := gb105) (o := .cells #[.slice A0_0 l0_0.length c0_0, .slice A0_1 l0_1.length c0_1] 27 (0, 0)) (by (with_reducible repeat (first | refine zah ?_ _ | refine zaj ?_ | refine zae ?_ _)); exact BK105.out) hb); have n1_ := zab.mk (zan (by repeat (first | (with_reducible first | exact HB.out | apply zad | apply zac | apply zaf | refine zam ?_ GE105.out) | exact HB.out)) hb); clear BK105; clear HB; have BK105 := n0_; have HB := n1_; clear n0_ n1_; (try clear hb); (try clear hb2); (try clear hk); (try clear hi))))
      go_ret
      exact ⟨by first | rfl | (simp [zaw, zav] <;> rfl) | (simp [*, zaw, zav] <;> rfl), by repeat (first | (with_reducible first | exact HB.out | apply zad | apply zac | apply zaf | refine zam ?_ GE105.out) | exact HB.out)⟩
   ·rw [if_neg c3] at H
    have c3b0 : decide (x4_1 < (l0_1.length : Int)) = false := decide_eq_false c3
    clear c3
    by_cases c12 : x3_1 > 40000
    ·rw [if_pos c12] at H
     have c12b0 : decide (40000 < x3_1) = true := decide_eq_true c12
     clear c12
     obtain rfl := Option.some.inj H
     have hcz13_0 : wr.cell? ⟨gb105, 0, none⟩ = some (.slice A0_0 l0_0.length c0_0) := (zaa BK105.out 0).trans rfl
     have hcz13_1 : wr.cell? ⟨gb105, 1, none⟩ = some (.slice A0_1 l0_1.length c0_1) := (zaa BK105.out 1).trans rfl
     have hfz13_0 := zai BK105.out 0
     have hfz13_1 := zai BK105.out 1
     go_wp2
     repeat (go_quiet (fail); try go_wp2)
     go_ret
     exact ⟨by first | rfl | (simp [zaw, zav] <;> rfl) | (simp [*, zaw, zav] <;> rfl), by repeat (first | (with_reducible first | exact HB.out | apply zad | apply zac | apply zaf | refine zam ?_ GE105.out) | exact HB.out)⟩
    ·rw [if_neg c12] at H
     have c12b0 : decide (40000 < x3_1) = false := decide_eq_false c12
     clear c12
     replace H := Option.bind_eq_some_iff.mp H
     obtain ⟨t110, A140, H⟩ := H
     replace H : (some t110) = some r := H
     have A14 := zab.mk A140
     clear A140
     obtain rfl := Option.some.inj H
     have hcz15_0 : wr.cell? ⟨gb105, 0, none⟩ = some (.slice A0_0 l0_0.length c0_0) := (zaa BK105.out 0).trans rfl
     have hcz15_1 : wr.cell? ⟨gb105, 1, none⟩ = some (.slice A0_1 l0_1.length c0_1) := (zaa BK105.out 1).trans rfl
     have hfz15_0 := zai BK105.out 0
     have hfz15_1 := zai BK105.out 1
     go_wp2_with (first | (go_at_call 21; (with_reducible refine (zaS.calls k1 _ _ l0_0 t110 _ ?side1 ?side2 A14.out).mono ?_); (case side1 => repeat (first | exact (Kd.C_below HR0_0.out HB.out) | (with_reducible refine Kd.C_alloc ?_ _) | (with_reducible refine Kd.C_drewN ?_ _) | (with_reducible refine Kd.C_drew ?_))); (case side2 => exact HC0_0.out); rintro e w16 ⟨rfl, hb⟩; have n0_ := zab.mk (zal (g := gb105) (o := .cells #[.slice A0_0 l0_0.length c0_0, .slice A0_1 l0_1.length c0_1] 27 (0, 0)) (by (with_reducible repeat (first | refine zah ?_ _ | refine zaj ?_ | refine zae ?_ _)); exact BK105.out) hb); have n1_ := zab.mk (zan (by repeat (first | (with_reducible first | exact HB.out | apply zad | apply zac | apply zaf | refine zam ?_ GE105.out) | exact HB.out)) hb); clear BK105; clear HB; have BK105 := n0_; have HB := n1_; clear n0_ n1_; (try clear hb); (try clear hb2); (try clear hk); (try clear hi)))
     repeat (go_quiet (first | (go_at_call 21; (with_reducible refine (zaS.calls k1 _ _ l0_0 t110 _ ?side1 ?side2 A14.out).mono ?_); (case side1 => repeat (first | exact (Kd.C_below HR0_0.out HB.out) | (with_reducible refine Kd.C_alloc ?_ _) | (with_reducible refine Kd.C_drewN ?_ _) | (with_reducible refine Kd.C_drew ?_))); (case side2 => exact HC0_0.out); rintro e w16 ⟨rfl, hb⟩; have n0_ := zab.mk (zal (g := gb105) (o := .cells #[.slice A0_0 l0_0.length c0_0, .slice A0_1 l0_1.length c0_1] 27 (0, 0)) (by (with_reducible repeat (first | refine zah ?_ _ | refine zaj ?_ | refine zae ?_ _)); exact BK105.out) hb); have n1_ := zab.mk (zan (by repeat (first | (with_reducible first | exact HB.out | apply zad | apply zac | apply zaf | refine zam ?_ GE105.out) | exact HB.out)) hb); clear BK105; clear HB; have BK105 := n0_; have HB := n1_; clear n0_ n1_; (try clear hb); (try clear hb2); (try clear hk); (try clear hi))); try go_wp2_with (first | (go_at_call 21; (with_reducible refine (zaS.calls k1 _ _ l0_0 t110 _ ?side1 ?side2 A14.out).mono ?_); (case side1 => repeat (first | exact (Kd.C_below HR0_0.out HB.out) | (with_reducible refine Kd.C_alloc ?_ _) | (with_reducible refine Kd.C_drewN ?_ _) | (with_reducible refine Kd.C_drew ?_))); (case side2 => exact HC0_0.out); rintro e w16 ⟨rfl, hb⟩; have n0_ := zab.mk (zal (g := gb105) (o := .cells #[.slice A0_0 l0_0.length c0_0, .slice A0_1 l0_1.length c0_1] 27 (0, 0)) (by (with_reducible repeat (first | refine zah ?_ _ | refine zaj ?_ | refine zae ?_ _)); exact BK105.out) hb); have n1_ := zab.mk (zan (by repeat (first | (with_reducible first | exact HB.out | apply zad | apply zac | apply zaf | refine zam ?_ GE105.out) | exact HB.out)) hb); clear BK105; clear HB; have BK105 := n0_; have HB := n1_; clear n0_ n1_; (try clear hb); (try clear hb2); (try clear hk); (try clear hi))))
     go_ret
     exact ⟨by first | rfl | (simp [zaw, zav] <;> rfl) | (simp [*, zaw, zav] <;> rfl), by repeat (first | (with_reducible first | exact HB.out | apply zad | apply zac | apply zaf | refine zam ?_ GE105.out) | exact HB.out)⟩
def zbh.f (a0 : Int) : Option (Int) := some a0
set_option maxHeartbeats 8000000 in
set_option maxRecDepth 100000 in
theorem zbh.calls (a0 : Int) (r : Int) (w : World) (h : zbh.f a0 = some r) :
  Calls Tryz.prog 15 #[.int .i64 a0] w fun e w' => e = .returned (.int .i64 r) ∧ zaW w w' := by
 have H : (some a0) = some r := h
 clear h
 obtain rfl := Option.some.inj H
 go_enter Tryz.func15, Tryz.ntmps15
 go_wp2
 go_ret
 exact ⟨by first | rfl | (simp; done) | (simp [*]; done), by repeat (first | exact zaW.refl _ | apply zaW.step)⟩
def tree_Has.f (l0_0 : List (S40)) (a1 : Int) : Option (Bool) := if a1 ≥ 0 then (if a1 < (l0_0.length : Int) then (if 0 ≤ a1 then (some (((zak l0_0 a1).f0) != 0)) else (none)) else (some false)) else (some false)
set_option maxHeartbeats 8000000 in
set_option maxRecDepth 100000 in
theorem tree_Has.calls (A0_0 : Option Addr) (c0_0 : Nat) (l0_0 : List (S40)) (a1 : Int) (r : Bool) (w : World) (hr0_0 : Kd.C k40 w A0_0 l0_0.length l0_0) (hc0_0 : l0_0.length ≤ c0_0) (h : tree_Has.f l0_0 a1 = some r) :
  Calls Tryz.prog 97 #[.agg #[.slice A0_0 l0_0.length c0_0], .int .i64 a1] w fun e w' => e = .returned (.bool r) ∧ Below w.heap.size w w' := by
 have hu24 := Tryz.underlying24
 have HR0_0 := zab.mk hr0_0
 have HC0_0 := zab.mk hc0_0
 clear hr0_0 hc0_0
 have HB := zab.mk (Below.refl w.heap.size w)
 have H : (if a1 ≥ 0 then (if a1 < (l0_0.length : Int) then (if 0 ≤ a1 then (some (((zak l0_0 a1).f0) != 0)) else (none)) else (some false)) else (some false)) = some r := h
 clear h
 by_cases c3 : a1 ≥ 0
 ·rw [if_pos c3] at H
  have c3b0 : decide (0 ≤ a1) = true := decide_eq_true c3
  clear c3
  by_cases c4 : a1 < (l0_0.length : Int)
  ·rw [if_pos c4] at H
   have c4b0 : decide (a1 < (l0_0.length : Int)) = true := decide_eq_true c4
   clear c4
   by_cases c5 : 0 ≤ a1
   ·rw [if_pos c5] at H
    have c5b0 : decide (0 ≤ a1) = true := decide_eq_true c5
    clear c5
    obtain rfl := Option.some.inj H
    go_enter Tryz.func97, Tryz.ntmps97
    go_wp2_with (first | ((with_reducible refine zaY (N := 2) rfl ?_); (try (refine zbx (by rfl) ?_; dsimp only)); refine zaN ?hg (N := 2) ?hd (cs := #[.slice A0_0 l0_0.length c0_0]) (t := 24) ?hr ?_; (case hd => rfl); (case hg => rfl); (case hr => first | (go_simp; done) | (go_simp; rfl)); intro gb211 hg w6 hbox hb; have n0_ := zab.mk (zan (by repeat (first | (with_reducible first | exact HB.out | apply zad | apply zac | apply zaf) | exact HB.out)) hb); have n1_ := zab.mk (hbox); have n2_ := zab.mk ((by rw [hg]; exact (zaq (by repeat (first | (with_reducible first | exact HB.out | apply zad | apply zac | apply zaf) | exact HB.out))) : w.heap.size ≤ gb211)); have n3_ := zab.mk ((by rw [hg]; exact (zaq (by repeat (first | (with_reducible first | exact HB.out | apply zad | apply zac | apply zaf) | exact HB.out))) : w.heap.size ≤ gb211)); clear HB; have HB := n0_; have BK211 := n1_; have GW211 := n2_; have GE211 := n3_; clear n0_ n1_ n2_ n3_; clear hb hbox hg; have hcz7_0 : w6.cell? ⟨gb211, 0, none⟩ = some (.slice A0_0 l0_0.length c0_0) := (zaa BK211.out 0).trans rfl; have hfz7_0 := zai BK211.out 0; have p212 : 0 ≤ (a1 : Int) := of_decide_eq_true (by first | (with_reducible assumption) | assumption); have q212 : a1 < (l0_0.length : Int) := of_decide_eq_true (by first | (with_reducible assumption) | assumption); obtain ⟨ad212, A212_1, c212_1, A212_2, c212_2, e212, hx212_0, hx212_1, hx212_2, hx212_3, hx212_4, hx212_5, hl212_1, hi212_1, hl212_2, hi212_2⟩ := zbl HR0_0.out a1 p212 q212; cases e212; replace hx212_0 := (HB.out.cell (World.block_lt_of_cell? w _ hx212_0)).trans hx212_0; replace hx212_1 := (HB.out.cell (World.block_lt_of_cell? w _ hx212_1)).trans hx212_1; replace hx212_2 := (HB.out.cell (World.block_lt_of_cell? w _ hx212_2)).trans hx212_2; replace hx212_3 := (HB.out.cell (World.block_lt_of_cell? w _ hx212_3)).trans hx212_3; replace hx212_4 := (HB.out.cell (World.block_lt_of_cell? w _ hx212_4)).trans hx212_4; replace hx212_5 := (HB.out.cell (World.block_lt_of_cell? w _ hx212_5)).trans hx212_5; have HR212_1 := zab.mk hi212_1; have HC212_1 := zab.mk hl212_1; clear hi212_1 hl212_1; have HR212_2 := zab.mk hi212_2; have HC212_2 := zab.mk hl212_2; clear hi212_2 hl212_2; replace p212 := eq_true p212; replace q212 := eq_true q212))
    go_ret
    exact ⟨by first | rfl | (simp [zaw, zav] <;> rfl) | (simp [*, zaw, zav] <;> rfl), by repeat (first | (with_reducible first | exact HB.out | apply zad | apply zac | apply zaf | refine zam ?_ GE211.out) | exact HB.out)⟩
   ·rw [if_neg c5] at H
    exact absurd H (by simp)
  ·rw [if_neg c4] at H
   have c4b0 : decide (a1 < (l0_0.length : Int)) = false := decide_eq_false c4
   clear c4
   obtain rfl := Option.some.inj H
   go_enter Tryz.func97, Tryz.ntmps97
   go_wp2_with (first | ((with_reducible refine zaY (N := 2) rfl ?_); (try (refine zbx (by rfl) ?_; dsimp only)); refine zaN ?hg (N := 2) ?hd (cs := #[.slice A0_0 l0_0.length c0_0]) (t := 24) ?hr ?_; (case hd => rfl); (case hg => rfl); (case hr => first | (go_simp; done) | (go_simp; rfl)); intro gb211 hg w8 hbox hb; have n0_ := zab.mk (zan (by repeat (first | (with_reducible first | exact HB.out | apply zad | apply zac | apply zaf) | exact HB.out)) hb); have n1_ := zab.mk (hbox); have n2_ := zab.mk ((by rw [hg]; exact (zaq (by repeat (first | (with_reducible first | exact HB.out | apply zad | apply zac | apply zaf) | exact HB.out))) : w.heap.size ≤ gb211)); have n3_ := zab.mk ((by rw [hg]; exact (zaq (by repeat (first | (with_reducible first | exact HB.out | apply zad | apply zac | apply zaf) | exact HB.out))) : w.heap.size ≤ gb211)); clear HB; have HB := n0_; have BK211 := n1_; have GW211 := n2_; have GE211 := n3_; clear n0_ n1_ n2_ n3_; clear hb hbox hg; have hcz9_0 : w8.cell? ⟨gb211, 0, none⟩ = some (.slice A0_0 l0_0.length c0_0) := (zaa BK211.out 0).trans rfl; have hfz9_0 := zai BK211.out 0))
   go_ret
   exact ⟨by first | rfl | (simp [zaw, zav] <;> rfl) | (simp [*, zaw, zav] <;> rfl), by repeat (first | (with_reducible first | exact HB.out | apply zad | apply zac | apply zaf | refine zam ?_ GE211.out) | exact HB.out)⟩
 ·rw [if_neg c3] at H
  have c3b0 : decide (0 ≤ a1) = false := decide_eq_false c3
  clear c3
  obtain rfl := Option.some.inj H
  go_enter Tryz.func97, Tryz.ntmps97
  go_wp2_with (first | ((with_reducible refine zaY (N := 2) rfl ?_); (try (refine zbx (by rfl) ?_; dsimp only)); refine zaN ?hg (N := 2) ?hd (cs := #[.slice A0_0 l0_0.length c0_0]) (t := 24) ?hr ?_; (case hd => rfl); (case hg => rfl); (case hr => first | (go_simp; done) | (go_simp; rfl)); intro gb211 hg w10 hbox hb; have n0_ := zab.mk (zan (by repeat (first | (with_reducible first | exact HB.out | apply zad | apply zac | apply zaf) | exact HB.out)) hb); have n1_ := zab.mk (hbox); have n2_ := zab.mk ((by rw [hg]; exact (zaq (by repeat (first | (with_reducible first | exact HB.out | apply zad | apply zac | apply zaf) | exact HB.out))) : w.heap.size ≤ gb211)); have n3_ := zab.mk ((by rw [hg]; exact (zaq (by repeat (first | (with_reducible first | exact HB.out | apply zad | apply zac | apply zaf) | exact HB.out))) : w.heap.size ≤ gb211)); clear HB; have HB := n0_; have BK211 := n1_; have GW211 := n2_; have GE211 := n3_; clear n0_ n1_ n2_ n3_; clear hb hbox hg))
  go_ret
  exact ⟨by first | rfl | (simp [zaw, zav] <;> rfl) | (simp [*, zaw, zav] <;> rfl), by repeat (first | (with_reducible first | exact HB.out | apply zad | apply zac | apply zaf | refine zam ?_ GE211.out) | exact HB.out)⟩
end Go.Proofs.YtjghephnjkffcaaGreat.PAll
