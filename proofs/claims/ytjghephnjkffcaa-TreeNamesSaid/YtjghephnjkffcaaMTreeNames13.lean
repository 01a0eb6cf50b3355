/- Parts of one proof, merged by a program of this repo: walks over the given program and plain facts. -/
import Derived.Test.YtjghephnjkffcaaMTreeNames5
import Derived.Test.YtjghephnjkffcaaMTreeNames11
import Derived.Test.YtjghephnjkffcaaMTreeNames8
import Derived.Test.YtjghephnjkffcaaMTreeNames4
import Derived.Test.YtjghephnjkffcaaMTreeNames6
import Derived.Test.YtjghephnjkffcaaMTreeNames9
import Derived.Test.YtjghephnjkffcaaMTreeNames10
import Derived.Test.YtjghephnjkffcaaMTreeNames2
import Derived.Deep.RegionHeld3
import Derived.Deep.DrawnRows
import Derived.Deep.CutBlock
import Derived.WalkSpells
import Derived.Test.YtjghephnjkffcaaMTreeNames12
namespace Go.Proofs.Ytjghephnjkffcaa.PCk
open Go.RowKit Go.Proofs.YtjghephnjkffcaaW.PrintWords Go.Proofs.YtjghephnjkffcaaW.PrintLast Go.Proofs.YtjghephnjkffcaaW.PrintMore
attribute [local go_sem] zb0 zbY zcl zck zbC zbB zbZ zbX
set_option linter.unusedVariables false
set_option linter.unusedSimpArgs false
theorem nd_set (l : List S45) (n : Nat) (x : S45) (hn : n < l.length) (j : Nat) : (zaf (l.set n x) (j : Int)) = if n = j then x else (zaf l (j : Int)) := by
 show (l.set n x).getD (j : Int).toNat _ = if n = j then _ else l.getD (j : Int).toNat _
 rw [Int.toNat_natCast, List.getD_eq_getElem?_getD, List.getD_eq_getElem?_getD, List.getElem?_set]
 by_cases e : n = j
 ·subst e; simp [hn]
 ·rw [if_neg e, if_neg e]
theorem cnt_set (l : List S45) : ∀ (n : Nat) (x : S45) (hn : n < l.length) (i : Nat), cnt (l.set n x) i + cntN (zaf l (n : Int)).f2 i = cnt l i + cntN x.f2 i := by
 induction l with
 | nil => intro n x hn; exact absurd hn (Nat.not_lt_zero _)
 | cons a l ih =>
  intro n x hn i
  cases n with
  | zero =>
   rw [zbU _ _ hn]
   unfold cnt
   rw [List.set_cons_zero, List.map_cons, List.map_cons, List.sum_cons, List.sum_cons]
   show _ + cntN a.f2 i = _
   omega
  | succ n =>
   have h1 := ih n x (by simpa using hn) i
   rw [zbU _ _ hn]
   rw [zbU _ _ (by simpa using hn)] at h1
   unfold cnt at h1 ⊢
   rw [List.set_cons_succ, List.map_cons, List.map_cons, List.sum_cons, List.sum_cons, List.getElem_cons_succ]
   omega
theorem cnt_zero {l : List S45} {i : Nat} : cnt l i = 0 ↔ ∀ j, j < l.length → ∀ x ∈ (zaf l (j : Int)).f2, x.f1 ≠ (i : Int) := by
 unfold cnt
 rw [List.sum_eq_zero_iff_forall_eq_nat]
 constructor
 ·intro h j hj x hx e
  rw [zbU l j hj] at hx
  have h1 := h _ (List.mem_map.2 ⟨_, List.getElem_mem hj, rfl⟩)
  have h2 := cntN_pos.2 ⟨x, hx, e⟩
  omega
 ·intro h c hc
  obtain ⟨x, hx, rfl⟩ := List.mem_map.1 hc
  obtain ⟨j, hj, rfl⟩ := List.getElem_of_mem hx
  by_cases q : cntN l[j].f2 i = 0
  ·exact q
  ·obtain ⟨y, hy, e⟩ := cntN_pos.1 (Nat.pos_of_ne_zero q)
   exact absurd e (h j hj y (by rw [zbU l j hj]; exact hy))
theorem cnt_le (l : List S45) (i : Nat) (h : ∀ j, j < l.length → (zaf l (j : Int)).f2.length ≤ 64) : cnt l i ≤ 64 * l.length := by
 have key : ∀ l : List S45, (∀ x ∈ l, x.f2.length ≤ 64) → cnt l i ≤ 64 * l.length := by
  intro l
  induction l with
  | nil => intro _; exact Nat.le_refl _
  | cons a l ih =>
   intro h
   have h1 := ih (fun x hx => h x (List.mem_cons_of_mem _ hx))
   have h2 : cntN a.f2 i ≤ 64 := Nat.le_trans (List.countP_le_length ..) (h a (List.mem_cons_self ..))
   unfold cnt at h1 ⊢
   rw [List.map_cons, List.sum_cons, List.length_cons]; omega
 exact key l fun x hx => by
  obtain ⟨j, hj, rfl⟩ := List.getElem_of_mem hx
  rw [← zbU l j hj]; exact h j hj
theorem nameP_size {s : ByteArray} (h : zbI s = 0) : s.size ≤ 64 := by
 unfold zbI at h
 split at h
 ·cases h
 ·split at h
  ·cases h
  ·omega
theorem nodeP_fits {x : S45} (h : zcc x) : FitsX x := by
 rcases h with h | h | h | h
 ·rw [h.2]; exact ⟨⟨by decide, by decide⟩, fun z hz => (by cases hz), by decide⟩
 ·obtain ⟨_, _, h1, h2, h3⟩ := h
  refine ⟨⟨by omega, by rw [h2]; decide⟩, fun z hz => (by rw [h2] at hz; cases hz), by rw [h3]; decide⟩
 ·obtain ⟨_, _, h1, h2, h3, h4⟩ := h
  refine ⟨⟨by rw [h3]; decide, by omega⟩, fun z hz => ?_, by rw [h4]; decide⟩
  have := nameP_size (((okR_iff _).1 h2).1 z hz)
  omega
 ·obtain ⟨_, _, _, h1, _, h2, h3⟩ := h
  refine ⟨⟨by rw [h2]; decide, by rw [h3]; decide⟩, fun z hz => (by rw [h3] at hz; cases hz), by omega⟩
theorem MayP.fits {l : List S45} (h : MayP l) : Fits l := fun x hx => by
 obtain ⟨j, hj, rfl⟩ := List.getElem_of_mem hx
 have := nodeP_fits (h.nodes j hj)
 rwa [zbU l j hj] at this
theorem MayP.ev {l : List S45} (h : MayP l) : Ev (fun k => zaO.f k l) true := may_of h.fits h
structure DirP (x : S45) : Prop where
 time : TimeP x.f5
 len : x.f2.length ≤ 64
 ok : ∀ y ∈ x.f2, zbI y.f0 = 0
 sorted : Sorted x.f2
 data : x.f1 = []
 target : x.f3 = ⟨#[]⟩
theorem zcc.dir {x : S45} (h : zcc x) (hk : x.f0 = 2) : DirP x := by
 rcases h with h | h | h | h
 ·have := h.1; omega
 ·have := h.1; omega
 ·obtain ⟨_, h1, h2, h3, h4, h5⟩ := h
  have := (okR_iff _).1 h3
  exact ⟨h1, h2, this.1, this.2, h4, h5⟩
 ·have := h.1; omega
theorem DirP.node {x : S45} (h : DirP x) (hk : x.f0 = 2) : zcc x := .inr (.inr (.inl ⟨hk, h.time, h.len, (okR_iff _).2 ⟨h.ok, h.sorted⟩, h.data, h.target⟩))
theorem zcc.leaf {x : S45} (h : zcc x) (hk : x.f0 ≠ 2) : x.f2 = [] := by
 rcases h with h | h | h | h
 ·rw [h.2]; rfl
 ·exact h.2.2.2.1
 ·exact absurd h.1 hk
 ·exact h.2.2.2.2.2.2
theorem MayP.cnt_small {l : List S45} (h : MayP l) (i : Nat) : cnt l i ≤ 4096 := by
 have h1 := cnt_le l i (fun j hj => nodeP_names (h.nodes j hj))
 have := h.len
 omega
theorem zbN.nat {l : List S45} {x : S66} (h : zbN l x) : ∃ m : Nat, x.f1 = (m : Int) ∧ 0 < m ∧ m < l.length ∧ (zaf l (m : Int)).f0 ≠ 0 := by
 obtain ⟨h1, h2, h3⟩ := h
 refine ⟨x.f1.toNat, by omega, by omega, by omega, ?_⟩
 rw [show ((x.f1.toNat : Nat) : Int) = x.f1 by omega]; exact h3
theorem nameIn_of {l : List S45} {x : S66} {m : Nat} (e : x.f1 = (m : Int)) (h0 : 0 < m) (h1 : m < l.length) (h2 : (zaf l (m : Int)).f0 ≠ 0) : zbN l x := ⟨by omega, by omega, by rw [e]; exact h2⟩
theorem Reach.keep {l l' : List S45} (n : Nat) (hleaf : (zaf l (n : Int)).f2 = []) (hlen : l.length ≤ l'.length) (hN : ∀ j, j < l.length → ∀ x ∈ (zaf l (j : Int)).f2, zbN l x) (h : ∀ j, j < l.length → ∀ x ∈ (zaf l (j : Int)).f2, ∀ m : Nat, x.f1 = (m : Int) → (zaf l (m : Int)).f0 = 2 → m ≠ n → (∃ y ∈ (zaf l' (j : Int)).f2, y.f1 = x.f1) ∧ (zaf l' (m : Int)).f0 = 2) {i : Nat} (hr : Reach l i) : i ≠ n → Reach l' i := by
 induction hr with
 | root => intro _; exact .root
 | @step j x hj hjl hx hd ih =>
  intro hne
  have hjn : j ≠ n := fun e => by subst e; rw [hleaf] at hx; cases hx
  obtain ⟨m, hm, _, _, _⟩ := (hN j hjl x hx).nat
  have hmn : m ≠ n := by rw [hm, Int.toNat_natCast] at hne; exact hne
  rw [hm] at hd
  obtain ⟨⟨y, hy, e⟩, hk⟩ := h j hjl x hx m hm hd hmn
  have := Reach.step (ih hjn) (Nat.lt_of_lt_of_le hjl hlen) hy (by rw [e, hm]; exact hk)
  rwa [e] at this
theorem MayP.edit {l l' : List S45} (h : MayP l) (hlen : l'.length = l.length) (hk : ∀ j, j < l.length → (zaf l' (j : Int)).f0 = (zaf l (j : Int)).f0) (h0 : (zaf l' (((0 : Nat)) : Int)).f4 = 1) (hN : ∀ j, j < l.length → zcc (zaf l' (j : Int))) (hn : ∀ j, j < l.length → ∀ x ∈ (zaf l' (j : Int)).f2, zbN l x) (hL : ∀ i : Nat, 0 < i → i < l.length → (zaf l' (i : Int)).f4 = (cnt l' i : Int))
  (hD : ∀ i : Nat, 0 < i → i < l.length → (zaf l (i : Int)).f0 = 2 → (zaf l' (i : Int)).f4 ≤ 1 ∧ ((zaf l' (i : Int)).f4 = 0 → (zaf l' (i : Int)).f2 = []) ∧ ((zaf l' (i : Int)).f4 = 1 → Reach l' i)) : MayP l' where
 pos := by rw [hlen]; exact h.pos
 len := by rw [hlen]; exact h.len
 last := fun h1 => by
  rw [hlen] at h1 ⊢
  have := h.last h1
  rw [show (l.length : Int) - 1 = ((l.length - 1 : Nat) : Int) by omega] at this ⊢
  rw [hk _ (by omega)]; exact this
 k0 := by rw [hk 0 h.pos]; exact h.k0
 l0 := h0
 nodes := fun j hj => hN j (by omega)
 names := fun j hj x hx => by
  obtain ⟨m, hm, h1, h2, h3⟩ := (hn j (by omega) x hx).nat
  exact nameIn_of hm h1 (by omega) (by rw [hk m h2]; exact h3)
 links := fun i h1 h2 => hL i h1 (by omega)
 dirs := fun i h1 h2 h3 => hD i h1 (by omega) (by rw [← hk i (by omega)]; exact h3)
theorem MayP.reach {l : List S45} (h : MayP l) {d : Nat} (hd : d < l.length) (hk : (zaf l (d : Int)).f0 = 2) (h4 : (zaf l (d : Int)).f4 ≠ 0) : Reach l d := by
 by_cases e : d = 0
 ·subst e; exact .root
 ·have h1 := h.dirs d (by omega) hd hk
  have h2 := h.links d (by omega) hd
  exact h1.2.2 (by omega)
theorem addN_nd (l : List S45) (d : Nat) (hd : d < l.length) (s : ByteArray) (n now : Int) (j : Nat) : (zaf (addN l (d : Int) s n now) (j : Int)) = if d = j then { (zaf l (d : Int)) with f2 := insN (zaf l (d : Int)).f2 s n, f5 := now } else (zaf l (j : Int)) := by
 unfold addN; rw [Int.toNat_natCast, nd_set _ _ _ hd]; rfl
theorem addN_cnt (l : List S45) (d : Nat) (hd : d < l.length) (s : ByteArray) (n now : Int) (i : Nat) : cnt (addN l (d : Int) s n now) i = cnt l i + if n = (i : Int) then 1 else 0 := by
 have h : cnt (l.set d { (zaf l (d : Int)) with f2 := insN (zaf l (d : Int)).f2 s n, f5 := now }) i + cntN (zaf l (d : Int)).f2 i = cnt l i + cntN (insN (zaf l (d : Int)).f2 s n) i := cnt_set l d { (zaf l (d : Int)) with f2 := insN (zaf l (d : Int)).f2 s n, f5 := now } hd i
 have h2 := cntN_ins (zaf l (d : Int)).f2 s n i
 have e : addN l (d : Int) s n now = l.set d { (zaf l (d : Int)) with f2 := insN (zaf l (d : Int)).f2 s n, f5 := now } := by unfold addN; rw [Int.toNat_natCast]; rfl
 rw [e]
 omega
theorem zb9 (l : List S45) (d : Nat) (hd : d < l.length) (s : ByteArray) (now : Int) (j : Nat) : (zaf (za0 l (d : Int) s now) (j : Int)) = if d = j then { (zaf l (d : Int)) with f2 := delN (zaf l (d : Int)).f2 s, f5 := now } else (zaf l (j : Int)) := by
 unfold za0; rw [Int.toNat_natCast, nd_set _ _ _ hd]; rfl
theorem removeN_cnt (l : List S45) (d : Nat) (hd : d < l.length) (s : ByteArray) (n now : Int) (hs : Sorted (zaf l (d : Int)).f2) (hm : (⟨s, n⟩ : S66) ∈ (zaf l (d : Int)).f2) (i : Nat) : cnt (za0 l (d : Int) s now) i + (if n = (i : Int) then 1 else 0) = cnt l i := by
 have h : cnt (l.set d { (zaf l (d : Int)) with f2 := delN (zaf l (d : Int)).f2 s, f5 := now }) i + cntN (zaf l (d : Int)).f2 i = cnt l i + cntN (delN (zaf l (d : Int)).f2 s) i := cnt_set l d { (zaf l (d : Int)) with f2 := delN (zaf l (d : Int)).f2 s, f5 := now } hd i
 have h2 := cntN_del hs hm i
 have e : za0 l (d : Int) s now = l.set d { (zaf l (d : Int)) with f2 := delN (zaf l (d : Int)).f2 s, f5 := now } := by unfold za0; rw [Int.toNat_natCast]; rfl
 rw [e]
 omega
theorem links_cnt (u : List S45) (n : Nat) (hn : n < u.length) (v : Int) (i : Nat) : cnt (u.set n { (zaf u (n : Int)) with f4 := v }) i = cnt u i := by
 have h : cnt (u.set n { (zaf u (n : Int)) with f4 := v }) i + cntN (zaf u (n : Int)).f2 i = cnt u i + cntN (zaf u (n : Int)).f2 i := cnt_set u n { (zaf u (n : Int)) with f4 := v } hn i
 omega
theorem linksBy_nd (u : List S45) (n : Nat) (hn : n < u.length) (d : Int) (j : Nat) : (zaf (zcm u (n : Int) d) (j : Int)) = if n = j then { (zaf u (n : Int)) with f4 := wrap64 ((zaf u (n : Int)).f4 + d) } else (zaf u (j : Int)) := by
 unfold zcm; rw [Int.toNat_natCast, nd_set _ _ _ hn]
theorem linksBy_cnt (u : List S45) (n : Nat) (hn : n < u.length) (d : Int) (i : Nat) : cnt (zcm u (n : Int) d) i = cnt u i := by
 unfold zcm; rw [Int.toNat_natCast]; exact links_cnt u n hn _ i
theorem linksDown_nd (u : List S45) (n : Nat) (hn : n < u.length) (j : Nat) : (zaf (zba u (n : Int)) (j : Int)) = if n = j then { (zaf u (n : Int)) with f4 := wrap64 ((zaf u (n : Int)).f4 - 1) } else (zaf u (j : Int)) := by
 unfold zba; rw [Int.toNat_natCast, nd_set _ _ _ hn]
theorem linksDown_cnt (u : List S45) (n : Nat) (hn : n < u.length) (i : Nat) : cnt (zba u (n : Int)) i = cnt u i := by
 unfold zba; rw [Int.toNat_natCast]; exact links_cnt u n hn _ i
theorem linksBy_len (u : List S45) (n : Int) (d : Int) : (zcm u n d).length = u.length := List.length_set
theorem linksDown_len (u : List S45) (n : Int) : (zba u n).length = u.length := List.length_set
theorem DirP.ins {x : S45} (h : DirP x) {s : ByteArray} (hs : zbI s = 0) (hb : bsAt x.f2 s = false) (hl : x.f2.length < 64) (n now : Int) (ht : TimeP now) : DirP { x with f2 := insN x.f2 s n, f5 := now } :=
 ⟨ht, by show (insN x.f2 s n).length ≤ 64; rw [insN_len]; omega, fun y hy => by
  rcases zb1.1 hy with rfl | hy
  ·exact hs
  ·exact h.ok y hy, insN_sorted h.sorted hb n, h.data, h.target⟩
theorem DirP.del {x : S45} (h : DirP x) (s : ByteArray) (now : Int) (ht : TimeP now) : DirP { x with f2 := delN x.f2 s, f5 := now } :=
 ⟨ht, by have : (delN x.f2 s).length ≤ x.f2.length := (List.eraseIdx_sublist _ _).length_le; have := h.len; show (delN x.f2 s).length ≤ 64; omega, fun y hy => h.ok y (delN_sub hy), delN_sorted h.sorted s, h.data, h.target⟩
theorem zcc.links {x : S45} (h : zcc x) (hk : x.f0 ≠ 0) (v : Int) : zcc { x with f4 := v } := by
 rcases h with h | h | h | h
 ·exact absurd h.1 hk
 ·exact .inr (.inl h)
 ·exact .inr (.inr (.inl h))
 ·exact .inr (.inr (.inr h))
theorem MayP.link {l : List S45} (h : MayP l) {d : Nat} (hd : d < l.length) (hk : (zaf l (d : Int)).f0 = 2) (h4 : (zaf l (d : Int)).f4 ≠ 0) {s : ByteArray} (hs : zbI s = 0) (hb : bsAt (zaf l (d : Int)).f2 s = false) (hl : (zaf l (d : Int)).f2.length < 64) {n : Nat} (hn : n < l.length) (hk0 : (zaf l (n : Int)).f0 ≠ 0) (hk2 : (zaf l (n : Int)).f0 ≠ 2) {now : Int} (ht : TimeP now) : MayP (zcm (addN l (d : Int) s (n : Int) now) (n : Int) 1) := by
 have hnd : d ≠ n := fun e => by subst e; exact hk2 hk
 have hn0 : 0 < n := Nat.pos_of_ne_zero fun e => by subst e; exact hk2 h.k0
 have hla : (addN l (d : Int) s (n : Int) now).length = l.length := addN_len ..
 have hrd : ∀ j : Nat, (zaf (zcm (addN l (d : Int) s (n : Int) now) (n : Int) 1) (j : Int)) = if n = j then { (zaf l (n : Int)) with f4 := (zaf l (n : Int)).f4 + 1 } else if d = j then { (zaf l (d : Int)) with f2 := insN (zaf l (d : Int)).f2 s (n : Int), f5 := now } else (zaf l (j : Int)) := fun j => by
  rw [linksBy_nd _ _ (by omega), addN_nd _ _ hd, addN_nd _ _ hd, if_neg hnd]
  have h1 := h.links n hn0 hn
  have h2 := h.cnt_small n
  rw [show wrap64 ((zaf l (n : Int)).f4 + 1) = (zaf l (n : Int)).f4 + 1 by rw [h1]; unfold wrap64; omega]
 have hc : ∀ i, cnt (zcm (addN l (d : Int) s (n : Int) now) (n : Int) 1) i = cnt l i + if n = i then 1 else 0 := fun i => by
  rw [linksBy_cnt _ _ (by omega), addN_cnt _ _ hd]
  by_cases e : n = i
  ·rw [if_pos (by omega), if_pos e]
  ·rw [if_neg (by omega), if_neg e]
 have hlen : (zcm (addN l (d : Int) s (n : Int) now) (n : Int) 1).length = l.length := by rw [linksBy_len, hla]
 generalize zcm (addN l (d : Int) s (n : Int) now) (n : Int) 1 = l' at *
 have hkk : ∀ j : Nat, (zaf l' (j : Int)).f0 = (zaf l (j : Int)).f0 := fun j => by
  rw [hrd]
  by_cases e : n = j
  ·subst e; rw [if_pos rfl]
  ·rw [if_neg e]
   by_cases e2 : d = j
   ·subst e2; rw [if_pos rfl]
   ·rw [if_neg e2]
 have hsub : ∀ j : Nat, ∀ x ∈ (zaf l (j : Int)).f2, x ∈ (zaf l' (j : Int)).f2 := fun j x hx => by
  rw [hrd]
  by_cases e : n = j
  ·subst e; rw [if_pos rfl]; exact hx
  ·rw [if_neg e]
   by_cases e2 : d = j
   ·subst e2; rw [if_pos rfl]; exact zb1.2 (.inr hx)
   ·rw [if_neg e2]; exact hx
 refine h.edit hlen (fun j _ => hkk j) ?_ (fun j hj => ?_) (fun j hj x hx => ?_) (fun i h0 hi => ?_) (fun i h0 hi hki => ?_)
 ·rw [hrd, if_neg (by omega)]
  by_cases e2 : d = 0
  ·subst e2; rw [if_pos rfl]; exact h.l0
  ·rw [if_neg e2]; exact h.l0
 ·rw [hrd]
  by_cases e : n = j
  ·subst e; rw [if_pos rfl]; exact (h.nodes n hn).links hk0 _
  ·rw [if_neg e]
   by_cases e2 : d = j
   ·subst e2; rw [if_pos rfl]; exact (((h.nodes d hd).dir hk).ins hs hb hl _ _ ht).node hk
   ·rw [if_neg e2]; exact h.nodes j hj
 ·rw [hrd] at hx
  by_cases e : n = j
  ·subst e; rw [if_pos rfl] at hx; exact h.names n hn x hx
  ·rw [if_neg e] at hx
   by_cases e2 : d = j
   ·subst e2; rw [if_pos rfl] at hx
    rcases zb1.1 hx with rfl | hx
    ·exact nameIn_of rfl hn0 hn hk0
    ·exact h.names d hd x hx
   ·rw [if_neg e2] at hx; exact h.names j hj x hx
 ·rw [hrd, hc]
  by_cases e : n = i
  ·subst e; rw [if_pos rfl, if_pos rfl]
   have := h.links n hn0 hn
   show (zaf l (n : Int)).f4 + 1 = _
   omega
  ·rw [if_neg e, if_neg e]
   have := h.links i h0 hi
   by_cases e2 : d = i
   ·subst e2; rw [if_pos rfl]; show (zaf l (d : Int)).f4 = _; omega
   ·rw [if_neg e2]; omega
 ·have hin : n ≠ i := fun e => by subst e; exact hk2 hki
  have hD := h.dirs i h0 hi hki
  have hr : Reach l i → Reach l' i := fun hr => Reach.keep n ((h.nodes n hn).leaf hk2) (by omega) h.names (fun j hj x hx m hm hkm _ => ⟨⟨x, hsub j x hx, rfl⟩, by rw [hkk]; exact hkm⟩) hr (fun e => hin e.symm)
  rw [hrd, if_neg hin]
  by_cases e2 : d = i
  ·subst e2; rw [if_pos rfl]
   exact ⟨hD.1, fun q => absurd q h4, fun q => hr (hD.2.2 q)⟩
  ·rw [if_neg e2]
   exact ⟨hD.1, hD.2.1, fun q => hr (hD.2.2 q)⟩
theorem MayP.unlink {l : List S45} (h : MayP l) {d : Nat} (hd : d < l.length) (hk : (zaf l (d : Int)).f0 = 2) {s : ByteArray} {n : Nat} (hm : (⟨s, (n : Int)⟩ : S66) ∈ (zaf l (d : Int)).f2) (hleaf : (zaf l (n : Int)).f2 = []) {now : Int} (ht : TimeP now) : MayP (zba (za0 l (d : Int) s now) (n : Int)) := by
 have hnd : d ≠ n := fun e => by subst e; rw [hleaf] at hm; cases hm
 obtain ⟨n', hn', hn0, hn, hk0⟩ := (h.names d hd _ hm).nat
 obtain rfl : n = n' := Int.ofNat.inj hn'
 have hla : (za0 l (d : Int) s now).length = l.length := zb4 ..
 have hdp := (h.nodes d hd).dir hk
 have hcn := removeN_cnt l d hd s (n : Int) now hdp.sorted hm
 have hrd : ∀ j : Nat, (zaf (zba (za0 l (d : Int) s now) (n : Int)) (j : Int)) = if n = j then { (zaf l (n : Int)) with f4 := (zaf l (n : Int)).f4 - 1 } else if d = j then { (zaf l (d : Int)) with f2 := delN (zaf l (d : Int)).f2 s, f5 := now } else (zaf l (j : Int)) := fun j => by
  rw [linksDown_nd _ _ (by omega), zb9 _ _ hd, zb9 _ _ hd, if_neg hnd]
  have h1 := h.links n hn0 hn
  have h2 := h.cnt_small n
  rw [show wrap64 ((zaf l (n : Int)).f4 - 1) = (zaf l (n : Int)).f4 - 1 by rw [h1]; unfold wrap64; omega]
 have hc : ∀ i, cnt (zba (za0 l (d : Int) s now) (n : Int)) i + (if n = i then 1 else 0) = cnt l i := fun i => by
  rw [linksDown_cnt _ _ (by omega), ← hcn i]
  by_cases e : n = i
  ·rw [if_pos e, if_pos (show (n : Int) = (i : Int) by omega)]
  ·rw [if_neg e, if_neg (show ¬ (n : Int) = (i : Int) by omega)]
 have hlen : (zba (za0 l (d : Int) s now) (n : Int)).length = l.length := by rw [linksDown_len, hla]
 generalize zba (za0 l (d : Int) s now) (n : Int) = l' at *
 have hkk : ∀ j : Nat, (zaf l' (j : Int)).f0 = (zaf l (j : Int)).f0 := fun j => by
  rw [hrd]
  by_cases e : n = j
  ·subst e; rw [if_pos rfl]
  ·rw [if_neg e]
   by_cases e2 : d = j
   ·subst e2; rw [if_pos rfl]
   ·rw [if_neg e2]
 have hsub : ∀ j, j < l.length → ∀ x ∈ (zaf l (j : Int)).f2, x.f1 ≠ (n : Int) → x ∈ (zaf l' (j : Int)).f2 := fun j hj x hx hne => by
  rw [hrd]
  by_cases e : n = j
  ·subst e; rw [if_pos rfl]; exact hx
  ·rw [if_neg e]
   by_cases e2 : d = j
   ·subst e2; rw [if_pos rfl]
    refine (delN_mem hdp.sorted hm).2 ⟨hx, fun es => hne ?_⟩
    have h1 := (bs_mem hdp.sorted hm).2
    have h2 := (bs_mem (n := x.f1) hdp.sorted (show (⟨s, x.f1⟩ : S66) ∈ (zaf l (d : Int)).f2 by rw [← es]; exact hx)).2
    rw [h1] at h2
    injection h2 with _ h3
    exact h3.symm
   ·rw [if_neg e2]; exact hx
 have hc1 : 0 < cnt l n := Nat.pos_of_ne_zero fun q => cnt_zero.1 q d hd _ hm rfl
 refine h.edit hlen (fun j _ => hkk j) ?_ (fun j hj => ?_) (fun j hj x hx => ?_) (fun i h0 hi => ?_) (fun i h0 hi hki => ?_)
 ·rw [hrd, if_neg (by omega)]
  by_cases e2 : d = 0
  ·subst e2; rw [if_pos rfl]; exact h.l0
  ·rw [if_neg e2]; exact h.l0
 ·rw [hrd]
  by_cases e : n = j
  ·subst e; rw [if_pos rfl]; exact (h.nodes n hn).links hk0 _
  ·rw [if_neg e]
   by_cases e2 : d = j
   ·subst e2; rw [if_pos rfl]; exact (hdp.del s _ ht).node hk
   ·rw [if_neg e2]; exact h.nodes j hj
 ·rw [hrd] at hx
  by_cases e : n = j
  ·subst e; rw [if_pos rfl] at hx; exact h.names n hn x hx
  ·rw [if_neg e] at hx
   by_cases e2 : d = j
   ·subst e2; rw [if_pos rfl] at hx
    exact h.names d hd x (delN_sub hx)
   ·rw [if_neg e2] at hx; exact h.names j hj x hx
 ·have hci := hc i
  rw [hrd]
  by_cases e : n = i
  ·subst e; rw [if_pos rfl]
   rw [if_pos rfl] at hci
   have := h.links n hn0 hn
   show (zaf l (n : Int)).f4 - 1 = _
   omega
  ·rw [if_neg e]
   rw [if_neg e] at hci
   have := h.links i h0 hi
   by_cases e2 : d = i
   ·subst e2; rw [if_pos rfl]; show (zaf l (d : Int)).f4 = _; omega
   ·rw [if_neg e2]; omega
 ·have hD := h.dirs i h0 hi hki
  by_cases hin : n = i
  ·subst hin
   rw [hrd, if_pos rfl]
   have := h.links n hn0 hn
   have h1 : (zaf l (n : Int)).f4 = 1 := by have := hD.1; omega
   refine ⟨?_, fun _ => hleaf, fun q => ?_⟩
   ·show (zaf l (n : Int)).f4 - 1 ≤ 1; omega
   ·have q : (zaf l (n : Int)).f4 - 1 = 1 := q
    omega
  ·have hr : Reach l i → Reach l' i := fun hr => Reach.keep n hleaf (by omega) h.names (fun j hj x hx m hm2 hkm hmn => ⟨⟨x, hsub j hj x hx (by omega), rfl⟩, by rw [hkk]; exact hkm⟩) hr (fun e => hin e.symm)
   rw [hrd, if_neg hin]
   by_cases e2 : d = i
   ·subst e2; rw [if_pos rfl]
    exact ⟨hD.1, fun q => (by have := hD.2.1 q; rw [this] at hm; cases hm), fun q => hr (hD.2.2 q)⟩
   ·rw [if_neg e2]
    exact ⟨hD.1, hD.2.1, fun q => hr (hD.2.2 q)⟩
theorem withNew_nd (l : List S45) (n : Nat) (hn : n ≤ l.length) (kind : Int) (target : ByteArray) (now : Int) (j : Nat) : (zaf (zbr l (n : Int) kind target now) (j : Int)) = if n = j then ⟨kind, [], [], target, 1, now⟩ else (zaf l (j : Int)) := by
 unfold zbr
 rw [Int.toNat_natCast]
 by_cases e : n = l.length
 ·rw [if_pos (by omega), nd_set _ _ _ (by simp; omega)]
  by_cases e2 : n = j
  ·rw [if_pos e2, if_pos e2]
  ·rw [if_neg e2, if_neg e2]
   show (l ++ [z45]).getD (j : Int).toNat _ = l.getD (j : Int).toNat _
   rw [Int.toNat_natCast, List.getD_eq_getElem?_getD, List.getD_eq_getElem?_getD]
   by_cases e3 : j < l.length
   ·rw [List.getElem?_append_left e3]
   ·rw [List.getElem?_eq_none (by simp; omega), List.getElem?_eq_none (by omega)]
 ·rw [if_neg (by omega), nd_set _ _ _ (by omega)]
theorem withNew_len (l : List S45) (n : Nat) (hn : n ≤ l.length) (kind : Int) (target : ByteArray) (now : Int) : (zbr l (n : Int) kind target now).length = max l.length (n + 1) := by
 unfold zbr
 by_cases e : n = l.length
 ·rw [if_pos (by omega), List.length_set, List.length_append, List.length_singleton]; omega
 ·rw [if_neg (by omega), List.length_set]; omega
theorem withNew_cnt (l : List S45) (n : Nat) (hn : n ≤ l.length) (hz : n < l.length → (zaf l (n : Int)).f2 = []) (kind : Int) (target : ByteArray) (now : Int) (i : Nat) : cnt (zbr l (n : Int) kind target now) i = cnt l i := by
 have hap : cnt (l ++ [z45]) i = cnt l i := by
  unfold cnt; rw [List.map_append, List.sum_append]; rfl
 unfold zbr
 rw [Int.toNat_natCast]
 by_cases e : n = l.length
 ·rw [if_pos (by omega)]
  have h := cnt_set (l ++ [z45]) n ⟨kind, [], [], target, 1, now⟩ (by simp; omega) i
  have h2 : (zaf (l ++ [z45]) (n : Int)).f2 = [] := by
   rw [zbU _ _ (by simp; omega)]
   have : ∀ (h : n < (l ++ [z45]).length), (l ++ [z45])[n] = z45 := fun h => by subst e; rw [List.getElem_append_right (Nat.le_refl _)]; simp
   rw [this]; rfl
  rw [h2, hap] at h
  exact h
 ·rw [if_neg (by omega)]
  have h := cnt_set l n ⟨kind, [], [], target, 1, now⟩ (by omega) i
  rw [hz (by omega)] at h
  exact h
def KindP (kind : Int) (target : ByteArray) : Prop := (kind = 1 ∧ target = ⟨#[]⟩) ∨ (kind = 2 ∧ target = ⟨#[]⟩) ∨ (kind = 3 ∧ target ≠ ⟨#[]⟩ ∧ target.size ≤ 512 ∧ (0 : UInt8) ∉ bytesOf target)
theorem KindP.node {kind : Int} {target : ByteArray} (h : KindP kind target) {now : Int} (ht : TimeP now) : zcc ⟨kind, [], [], target, 1, now⟩ := by
 rcases h with ⟨h, h1⟩ | ⟨h, h1⟩ | ⟨h, h1, h2, h3⟩
 ·exact .inr (.inl ⟨h, ht, Nat.zero_le _, rfl, h1⟩)
 ·exact .inr (.inr (.inl ⟨h, ht, Nat.zero_le _, fun i hi => absurd hi (Nat.not_lt_zero _), rfl, h1⟩))
 ·exact .inr (.inr (.inr ⟨h, ht, h1, h2, h3, rfl, rfl⟩))
theorem KindP.ne {kind : Int} {target : ByteArray} (h : KindP kind target) : kind ≠ 0 := by
 rcases h with ⟨h, _⟩ | ⟨h, _⟩ | ⟨h, _⟩ <;> omega
theorem MayP.free_names {l : List S45} (h : MayP l) {n : Nat} (hfree : n < l.length → (zaf l (n : Int)).f0 = 0) : ∀ j, j < l.length → ∀ x ∈ (zaf l (j : Int)).f2, x.f1 ≠ (n : Int) := fun j hj x hx e => by
 obtain ⟨m, hm, h1, h2, h3⟩ := (h.names j hj x hx).nat
 obtain rfl : n = m := by omega
 exact h3 (hfree h2)
theorem MayP.make {l : List S45} (h : MayP l) {d : Nat} (hd : d < l.length) (hk : (zaf l (d : Int)).f0 = 2) (h4 : (zaf l (d : Int)).f4 ≠ 0) {s : ByteArray} (hs : zbI s = 0) (hb : bsAt (zaf l (d : Int)).f2 s = false) (hl : (zaf l (d : Int)).f2.length < 64) {n : Nat} (hn : n ≤ l.length) (hn64 : n < 64) (hfree : n < l.length → (zaf l (n : Int)).f0 = 0) {kind : Int} {target : ByteArray} (hkp : KindP kind target) {now : Int} (ht : TimeP now) : MayP (addN (zbr l (n : Int) kind target now) (d : Int) s (n : Int) now) := by
 have hnd : n ≠ d := fun e => by subst e; have := hfree hd; omega
 have hn0 : 0 < n := Nat.pos_of_ne_zero fun e => by subst e; have := hfree h.pos; have := h.k0; omega
 have hwl := withNew_len l n hn kind target now
 have hla : (addN (zbr l (n : Int) kind target now) (d : Int) s (n : Int) now).length = max l.length (n + 1) := by rw [addN_len, hwl]
 have hfn : n < l.length → (zaf l (n : Int)).f2 = [] := fun q => (h.nodes n q).leaf (by rw [hfree q]; decide)
 have hrd : ∀ j : Nat, (zaf (addN (zbr l (n : Int) kind target now) (d : Int) s (n : Int) now) (j : Int)) = if n = j then ⟨kind, [], [], target, 1, now⟩ else if d = j then { (zaf l (d : Int)) with f2 := insN (zaf l (d : Int)).f2 s (n : Int), f5 := now } else (zaf l (j : Int)) := fun j => by
  rw [addN_nd _ _ (by omega), withNew_nd _ _ hn, withNew_nd _ _ hn, if_neg hnd]
  by_cases e : n = j
  ·rw [if_pos e, if_neg (by omega), if_pos e]
  ·rw [if_neg e, if_neg e]
 have hc : ∀ i, cnt (addN (zbr l (n : Int) kind target now) (d : Int) s (n : Int) now) i = cnt l i + if n = i then 1 else 0 := fun i => by
  rw [addN_cnt _ _ (by omega), withNew_cnt l n hn hfn]
  by_cases e : n = i
  ·rw [if_pos (by omega), if_pos e]
  ·rw [if_neg (by omega), if_neg e]
 generalize addN (zbr l (n : Int) kind target now) (d : Int) s (n : Int) now = l' at *
 have hno := h.free_names hfree
 have hkk : ∀ j : Nat, j ≠ n → (zaf l' (j : Int)).f0 = (zaf l (j : Int)).f0 := fun j hj => by
  rw [hrd, if_neg (by omega)]
  by_cases e2 : d = j
  ·subst e2; rw [if_pos rfl]
  ·rw [if_neg e2]
 have hsub : ∀ j : Nat, j < l.length → ∀ x ∈ (zaf l (j : Int)).f2, x ∈ (zaf l' (j : Int)).f2 := fun j hj x hx => by
  rw [hrd]
  by_cases e : n = j
  ·subst e; rw [hfn hj] at hx; cases hx
  ·rw [if_neg e]
   by_cases e2 : d = j
   ·subst e2; rw [if_pos rfl]; exact zb1.2 (.inr hx)
   ·rw [if_neg e2]; exact hx
 have hnin : ∀ x, zbN l x → x.f1 ≠ (n : Int) → zbN l' x := fun x hx hne => by
  obtain ⟨m, hm, h1, h2, h3⟩ := hx.nat
  exact nameIn_of hm h1 (by omega) (by rw [hkk m (by omega)]; exact h3)
 have hreach : ∀ i, Reach l i → Reach l' i := fun i hr => by
  by_cases e : i = n
  ·subst e
   cases hr with
   | root => exact .root
   | @step j x hj hjl hx hd =>
    obtain ⟨m, hm, _, _, _⟩ := (h.names j hjl x hx).nat
    exact absurd hm (by have := hno j hjl x hx; rw [hm, Int.toNat_natCast] at this; exact fun _ => this rfl)
  ·exact Reach.keep n (by
    by_cases q : n < l.length
    ·exact hfn q
    ·unfold zaf; rw [Int.toNat_natCast, List.getD_eq_getElem?_getD, List.getElem?_eq_none (by omega)]; rfl) (by omega) h.names (fun j hj x hx m hm hkm hmn => ⟨⟨x, hsub j hj x hx, rfl⟩, by rw [hkk m hmn]; exact hkm⟩) hr e
 have hkn := hkp.ne
 refine ⟨by omega, by have := h.len; omega, fun h1 => ?_, ?_, ?_, fun j hj => ?_, fun j hj x hx => ?_, fun i h0 hi => ?_, fun i h0 hi hki => ?_⟩
 ·rw [show (l'.length : Int) - 1 = ((l'.length - 1 : Nat) : Int) by omega, hrd]
  by_cases e : n = l'.length - 1
  ·rw [if_pos e]; exact hkn
  ·rw [if_neg e]
   have hlast := h.last (by omega)
   rw [show (l.length : Int) - 1 = ((l'.length - 1 : Nat) : Int) by omega] at hlast
   by_cases e2 : d = l'.length - 1
   ·rw [if_pos e2]; rw [← e2] at hlast; exact hlast
   ·rw [if_neg e2]; exact hlast
 ·rw [hkk 0 (by omega)]; exact h.k0
 ·rw [hrd, if_neg (by omega)]
  by_cases e2 : d = 0
  ·subst e2; rw [if_pos rfl]; exact h.l0
  ·rw [if_neg e2]; exact h.l0
 ·rw [hrd]
  by_cases e : n = j
  ·rw [if_pos e]; exact hkp.node ht
  ·rw [if_neg e]
   by_cases e2 : d = j
   ·subst e2; rw [if_pos rfl]; exact (((h.nodes d hd).dir hk).ins hs hb hl _ _ ht).node hk
   ·rw [if_neg e2]; exact h.nodes j (by omega)
 ·rw [hrd] at hx
  by_cases e : n = j
  ·rw [if_pos e] at hx; cases hx
  ·rw [if_neg e] at hx
   by_cases e2 : d = j
   ·subst e2; rw [if_pos rfl] at hx
    rcases zb1.1 hx with rfl | hx
    ·exact nameIn_of rfl hn0 (by omega) (by rw [hrd, if_pos rfl]; exact hkn)
    ·exact hnin x (h.names d hd x hx) (hno d hd x hx)
   ·rw [if_neg e2] at hx; exact hnin x (h.names j (by omega) x hx) (hno j (by omega) x hx)
 ·rw [hrd, hc]
  by_cases e : n = i
  ·subst e; rw [if_pos rfl, if_pos rfl]
   have : cnt l n = 0 := cnt_zero.2 hno
   show (1 : Int) = _
   omega
  ·rw [if_neg e, if_neg e]
   have := h.links i h0 (by omega)
   by_cases e2 : d = i
   ·subst e2; rw [if_pos rfl]; show (zaf l (d : Int)).f4 = _; omega
   ·rw [if_neg e2]; omega
 ·by_cases e : n = i
  ·subst e
   rw [hrd, if_pos rfl]
   refine ⟨Int.le_refl _, fun q => (by have q : (1 : Int) = 0 := q; omega), fun _ => ?_⟩
   have hrd2 := hreach d (h.reach hd hk h4)
   have hm : (⟨s, (n : Int)⟩ : S66) ∈ (zaf l' (d : Int)).f2 := by rw [hrd, if_neg hnd, if_pos rfl]; exact zb1.2 (.inl rfl)
   have := Reach.step hrd2 (by omega) hm hki
   rwa [Int.toNat_natCast] at this
  ·rw [hkk i (by omega)] at hki
   have hD := h.dirs i h0 (by omega) hki
   rw [hrd, if_neg e]
   by_cases e2 : d = i
   ·subst e2; rw [if_pos rfl]
    exact ⟨hD.1, fun q => absurd q h4, fun q => hreach _ (hD.2.2 q)⟩
   ·rw [if_neg e2]
    exact ⟨hD.1, hD.2.1, fun q => hreach _ (hD.2.2 q)⟩
def sizedL (l : List Int) (n : Nat) : List Int := l.take n ++ List.replicate (n - l.length) 0
theorem sizedL_splice (l : List Int) (n : Nat) : splice (List.replicate n (0 : Int)) 0 (l.take n) = sizedL l n := by
 unfold splice sizedL
 rw [List.take_zero, List.nil_append, Nat.zero_add, List.drop_replicate, List.length_take]
 congr 2
 omega
def tree_sized.f (l0 : List Int) (a1 : Int) : Option (List Int) := if 0 ≤ a1 then (if a1 ≤ 140737488355328 then some (sizedL l0 a1.toNat) else none) else none
set_option maxHeartbeats 1000000 in
set_option maxRecDepth 100000 in
theorem tree_sized.blk (A0 : Option Addr) (c0 : Nat) (l0 : List Int) (a1 : Int) (r : List Int) (w : World) (hr0 : Kd.C (Kd.int .u8) w A0 l0.length l0) (hc0 : l0.length ≤ c0) (h : tree_sized.f l0 a1 = some r) :
  Calls Try.prog 47 #[.slice A0 l0.length c0, .int .i64 a1] w fun e w' => e = .returned (.slice (some ⟨w.heap.size, 0, none⟩) a1.toNat a1.toNat) ∧ w'.heap[w.heap.size]? = some (.cells (nums .u8 r).toArray 5 (0, 0)) ∧ Below w.heap.size w w' := by
 unfold tree_sized.f at h
 split at h
 ·rename_i h0
  split at h
  ·rename_i h1
   obtain ⟨m, rfl⟩ := Int.eq_ofNat_of_zero_le h0
   rw [Int.toNat_natCast] at h
   obtain rfl := Option.some.inj h
   have HR := zab.mk hr0
   have HM := zab.mk (show m ≤ 140737488355328 by omega)
   have hmk := print_make (P := Try.prog) 36 5 .u8 1 Try.underlying36 info5 (by decide) m (by omega)
   rw [made_nums] at hmk
   clear h hr0 hc0 h0 h1
   obtain ⟨z, hz⟩ : ∃ z, z = List.replicate m (0 : Int) := ⟨_, rfl⟩
   rw [← hz] at hmk
   have HZ := zab.mk hz
   clear hz
   go_enter Try.func47, Try.ntmps47
   go_wp2_with (first | (with_reducible refine wpList_copy_nums rfl (.tmp 8) (.tmp 9) 36 36 rfl 5 Try.underlying36 (by kernel_rfl) .u8 (some ⟨w.heap.size, 0, none⟩) A0 m m l0.length c0 rfl rfl w.heap.size 0 z l0 5 ?hg ?hy ?hd ?hf w.heap.size w ?hb (Nat.le_refl _) ?_; (case hg => exact zbp w _); (case hy => exact Kd.C_below HR.out (zac (Below.refl _ _) _)); (case hd => exact fun _ => rfl); (case hf => rw [HZ.out]; simp); (case hb => exact zac (Below.refl _ _) _); intro w1 HG HB))
   go_ret
   have hs := HG.out
   rw [HZ.out, sizedL_splice] at hs
   exact ⟨rfl, hs, HB⟩
  ·cases h
 ·cases h
theorem dir_f (l : List S45) (d : Nat) (hd : d < l.length) : za3.f l (d : Int) = some ((zaf l (d : Int)).f0 == 2) := by
 unfold za3.f; rw [if_pos (by omega), if_pos (by omega)]
theorem place_f {l : List S45} (d : Nat) (hd : d < l.length) (h : (zaf l (d : Int)).f2.length ≤ 64) (s : ByteArray) : zaW.f l (d : Int) s = some ((bs (zaf l (d : Int)).f2 s : Int), bsAt (zaf l (d : Int)).f2 s) := by
 unfold zaW.f; rw [if_pos (by omega), if_pos (by omega), if_pos (by omega)]
def zbL (l : List S45) (d : Nat) (s : ByteArray) : Int × Int := if (zaf l (d : Int)).f0 = 2 then (if zbI s = 0 then (if bsAt (zaf l (d : Int)).f2 s = true then ((zat (zaf l (d : Int)).f2 ((bs (zaf l (d : Int)).f2 s : Nat) : Int)).f1, 0) else (0, 44)) else (0, zbI s)) else (0, 54)
theorem find_ev {l : List S45} (h : MayP l) (d : Nat) (hd : d < l.length) (s : ByteArray) : Ev (fun k => zbb.f k l (d : Int) s) (zbL l d s) := by
 unfold zbL
 by_cases hk : (zaf l (d : Int)).f0 = 2
 ·rw [if_pos hk]
  have hpl := place_f d hd (nodeP_names (h.nodes d hd)) s
  have hk' : ((zaf l (d : Int)).f0 == 2) = true := by simpa using hk
  have hn := tree_name_ev s
  refine Ev.congr (fun k => by unfold zbb.f; rw [dir_f l d hd, hk', Option.bind_some, if_pos rfl]) (Ev.bind hn ?_)
  by_cases hs : zbI s = 0
  ·rw [if_pos hs]
   by_cases hb : bsAt (zaf l (d : Int)).f2 s = true
   ·rw [if_pos hb]
    refine Ev.congr (fun k => ?_) (Ev.now _)
    have hlt : bs (zaf l (d : Int)).f2 s < (zaf l (d : Int)).f2.length := by
     unfold bsAt at hb; rw [Bool.and_eq_true, decide_eq_true_eq] at hb; exact hb.1
    rw [if_pos hs, hpl, Option.bind_some, if_pos hb, if_pos (by omega), if_pos (by omega), if_pos (by omega), if_pos (by omega)]
   ·rw [if_neg hb]
    refine Ev.congr (fun k => ?_) (Ev.now _)
    rw [if_pos hs, hpl, Option.bind_some, if_neg hb]
  ·rw [if_neg hs]
   refine Ev.congr (fun k => ?_) (Ev.now _)
   rw [if_neg hs]
 ·rw [if_neg hk]
  have hk' : ((zaf l (d : Int)).f0 == 2) = false := by simpa using hk
  refine Ev.congr (fun k => ?_) (Ev.now _)
  unfold zbb.f; rw [dir_f l d hd, hk', Option.bind_some, if_neg (by simp)]
theorem hasB_of (l : List S45) (d : Int) (h : hasB l d = true) : ∃ m : Nat, d = (m : Int) ∧ m < l.length ∧ (zaf l (m : Int)).f0 ≠ 0 := by
 unfold hasB at h
 simp only [Bool.and_eq_true, decide_eq_true_eq, bne_iff_ne, ne_eq] at h
 exact ⟨d.toNat, by omega, by omega, by rw [show ((d.toNat : Nat) : Int) = d by omega]; exact h.2.2⟩
theorem hasB_nd (l : List S45) (m : Nat) (h : m < l.length) (hk : (zaf l (m : Int)).f0 ≠ 0) : hasB l (m : Int) = true := by
 rw [hasB_nat l m h]; simpa using hk
theorem Find_ev {l : List S45} (h : MayP l) (d : Nat) (hd : d < l.length) (hk : (zaf l (d : Int)).f0 ≠ 0) (s : ByteArray) : Ev (fun k => zbv.f k l (d : Int) s) (zbL l d s) := by
 have hm := mayN_ev h.ev [(d : Int)]
 rw [show ([(d : Int)].all fun n => hasB l n) = true by simp [hasB_nd l d hd hk], Bool.and_true] at hm
 unfold zbv.f
 refine Ev.bind hm (Ev.congr (fun k => if_pos rfl) (Ev.bind (find_ev h d hd s) (Ev.now _)))
theorem findR_mem {l : List S45} (h : MayP l) {d : Nat} (hd : d < l.length) (hk : (zaf l (d : Int)).f0 = 2) {s : ByteArray} (hs : zbI s = 0) {n : Int} (hm : (⟨s, n⟩ : S66) ∈ (zaf l (d : Int)).f2) : zbL l d s = (n, 0) := by
 have hdp := (h.nodes d hd).dir hk
 unfold zbL
 rw [if_pos hk, if_pos hs, if_pos ((zcd hdp.sorted s).2 ⟨n, hm⟩), (bs_mem hdp.sorted hm).2]
theorem findR_no {l : List S45} {d : Nat} (hk : (zaf l (d : Int)).f0 = 2) {s : ByteArray} (hs : zbI s = 0) (hb : bsAt (zaf l (d : Int)).f2 s = false) : zbL l d s = (0, 44) := by
 unfold zbL; rw [if_pos hk, if_pos hs, hb, if_neg (by simp)]
theorem nameP_cases (s : ByteArray) : zbI s = 28 ∨ zbI s = 37 ∨ zbI s = 0 := by
 unfold zbI; split
 ·exact .inl rfl
 ·split
  ·exact .inr (.inl rfl)
  ·exact .inr (.inr rfl)
theorem findR_zero {l : List S45} (h : MayP l) {d : Nat} (hd : d < l.length) {s : ByteArray} {n : Int} (he : zbL l d s = (n, 0)) : (zaf l (d : Int)).f0 = 2 ∧ zbI s = 0 ∧ (⟨s, n⟩ : S66) ∈ (zaf l (d : Int)).f2 := by
 unfold zbL at he
 by_cases hk : (zaf l (d : Int)).f0 = 2
 ·rw [if_pos hk] at he
  by_cases hs : zbI s = 0
  ·rw [if_pos hs] at he
   by_cases hb : bsAt (zaf l (d : Int)).f2 s = true
   ·have hdp := (h.nodes d hd).dir hk
    obtain ⟨n', hm⟩ := (zcd hdp.sorted s).1 hb
    rw [if_pos hb, (bs_mem hdp.sorted hm).2] at he
    injection he with h1 _
    exact ⟨hk, hs, h1 ▸ hm⟩
   ·rw [if_neg hb] at he; injection he with _ h2; exact absurd h2 (by decide)
  ·rw [if_neg hs] at he; injection he with _ h2; exact absurd h2 hs
 ·rw [if_neg hk] at he; injection he with _ h2; exact absurd h2 (by decide)
theorem findR_44 {l : List S45} {d : Nat} {s : ByteArray} {n : Int} (he : zbL l d s = (n, 44)) : (zaf l (d : Int)).f0 = 2 ∧ zbI s = 0 ∧ bsAt (zaf l (d : Int)).f2 s = false := by
 unfold zbL at he
 by_cases hk : (zaf l (d : Int)).f0 = 2
 ·rw [if_pos hk] at he
  by_cases hs : zbI s = 0
  ·rw [if_pos hs] at he
   by_cases hb : bsAt (zaf l (d : Int)).f2 s = true
   ·rw [if_pos hb] at he; injection he with _ h2; exact absurd h2 (by decide)
   ·exact ⟨hk, hs, by simpa using hb⟩
  ·rw [if_neg hs] at he; injection he with _ h2
   rcases nameP_cases s with q | q | q
   ·omega
   ·omega
   ·exact absurd q hs
 ·rw [if_neg hk] at he; injection he with _ h2; exact absurd h2 (by decide)
def roomR (l : List S45) (d : Nat) (s : ByteArray) (b : Int) : Int := if (zaf l (d : Int)).f0 = 2 then (if zbI s = 0 then (if b = 0 then (if (zaf l (d : Int)).f4 = 0 then 44 else if bsAt (zaf l (d : Int)).f2 s = true then 20 else if (zaf l (d : Int)).f2.length = 64 then 51 else 0) else b) else zbI s) else 54
theorem room_ev {l : List S45} (h : MayP l) (d : Nat) (hd : d < l.length) (s : ByteArray) (b : Int) : Ev (fun k => zbw.f k l (d : Int) s b) (roomR l d s b) := by
 unfold roomR
 by_cases hk : (zaf l (d : Int)).f0 = 2
 ·rw [if_pos hk]
  have hpl := place_f d hd (nodeP_names (h.nodes d hd)) s
  have hk' : ((zaf l (d : Int)).f0 == 2) = true := by simpa using hk
  refine Ev.congr (fun k => by unfold zbw.f; rw [dir_f l d hd, hk', Option.bind_some, if_pos rfl]) (Ev.bind (tree_name_ev s) ?_)
  by_cases hs : zbI s = 0
  ·rw [if_pos hs]
   refine Ev.congr (fun k => ?_) (Ev.now _)
   rw [if_pos hs, hpl, Option.bind_some]
   by_cases hb : b = 0
   ·rw [if_pos hb, if_pos hb, if_pos (by omega), if_pos (by omega)]
    by_cases h4 : (zaf l (d : Int)).f4 = 0
    ·rw [if_pos h4, if_pos h4]
    ·rw [if_neg h4, if_neg h4]
     by_cases hat : bsAt (zaf l (d : Int)).f2 s = true
     ·rw [if_pos hat, if_pos hat]
     ·rw [if_neg hat, if_neg hat]
      by_cases hl : (zaf l (d : Int)).f2.length = 64
      ·rw [if_pos hl, if_pos (by omega)]
      ·rw [if_neg hl, if_neg (by omega)]
   ·rw [if_neg hb, if_neg hb]
  ·rw [if_neg hs]
   refine Ev.congr (fun k => ?_) (Ev.now _)
   rw [if_neg hs]
 ·rw [if_neg hk]
  have hk' : ((zaf l (d : Int)).f0 == 2) = false := by simpa using hk
  refine Ev.congr (fun k => ?_) (Ev.now _)
  unfold zbw.f; rw [dir_f l d hd, hk', Option.bind_some, if_neg (by simp)]
theorem roomR_zero {l : List S45} {d : Nat} {s : ByteArray} {b : Int} (h : roomR l d s b = 0) : (zaf l (d : Int)).f0 = 2 ∧ zbI s = 0 ∧ b = 0 ∧ (zaf l (d : Int)).f4 ≠ 0 ∧ bsAt (zaf l (d : Int)).f2 s = false ∧ (zaf l (d : Int)).f2.length ≠ 64 := by
 unfold roomR at h
 by_cases hk : (zaf l (d : Int)).f0 = 2
 ·rw [if_pos hk] at h
  by_cases hs : zbI s = 0
  ·rw [if_pos hs] at h
   by_cases hb : b = 0
   ·rw [if_pos hb] at h
    by_cases h4 : (zaf l (d : Int)).f4 = 0
    ·rw [if_pos h4] at h; exact absurd h (by decide)
    ·rw [if_neg h4] at h
     by_cases hat : bsAt (zaf l (d : Int)).f2 s = true
     ·rw [if_pos hat] at h; exact absurd h (by decide)
     ·rw [if_neg hat] at h
      by_cases hl : (zaf l (d : Int)).f2.length = 64
      ·rw [if_pos hl] at h; exact absurd h (by decide)
      ·exact ⟨hk, hs, hb, h4, by simpa using hat, hl⟩
   ·rw [if_neg hb] at h; exact absurd h hb
  ·rw [if_neg hs] at h; exact absurd h hs
 ·rw [if_neg hk] at h; exact absurd h (by decide)
theorem free_l0 (l : List S45) (hl : l.length ≤ 64) : ∀ (d i : Nat), i + d = l.length → (∀ j, j < i → (zaf l (j : Int)).f0 ≠ 0) → ∃ n : Nat, Ev (fun k => za7.l0 k l (l.length : Int) (i : Int) l) (n : Int) ∧ n ≤ l.length ∧ (n < l.length → (zaf l (n : Int)).f0 = 0) ∧ ∀ j, j < n → (zaf l (j : Int)).f0 ≠ 0
 | 0, i, h, hno => ⟨l.length, Ev.step (f := fun _ => some (l.length : Int)) (fun k => by rw [za7.l0, if_neg (by omega)]) (Ev.now _), Nat.le_refl _, fun q => absurd q (Nat.lt_irrefl _), fun j hj => hno j (by omega)⟩
 | d + 1, i, h, hno => by
  by_cases hk : (zaf l (i : Int)).f0 = 0
  ·exact ⟨i, Ev.step (f := fun _ => some (i : Int)) (fun k => by rw [za7.l0, if_pos (by omega), if_pos (by omega), if_pos (by omega), if_pos hk]) (Ev.now _), by omega, fun _ => hk, hno⟩
  ·obtain ⟨n, h1, h2⟩ := free_l0 l hl d (i + 1) (by omega) (fun j hj => by
    by_cases e : j = i
    ·subst e; exact hk
    ·exact hno j (by omega))
   exact ⟨n, Ev.step (fun k => by rw [za7.l0, if_pos (by omega), if_pos (by omega), if_pos (by omega), if_neg hk, up64 (by omega)]) h1, h2⟩
theorem free_ev (l : List S45) (hl : l.length ≤ 64) : ∃ n : Nat, Ev (fun k => za7.f k l) (n : Int) ∧ n ≤ l.length ∧ (n < l.length → (zaf l (n : Int)).f0 = 0) ∧ ∀ j, j < n → (zaf l (j : Int)).f0 ≠ 0 := free_l0 l hl l.length 0 (by omega) (fun j hj => by omega)
def leadsR (kind : Int) (t : ByteArray) : Int := if kind = 3 then (if t = ⟨#[]⟩ ∨ (0 : UInt8) ∈ bytesOf t then 28 else if (t.size : Int) > 512 then 37 else 0) else 0
theorem leads_ev (kind : Int) (t : ByteArray) : Ev (fun k => zaX.f k kind t) (leadsR kind t) := by
 unfold leadsR
 have hj : ∀ b : Bool, Ev (fun k => zaX.j0 k t b) (if b = true then 28 else if (t.size : Int) > 512 then 37 else 0) := fun b => Ev.step (f := fun _ => some (if b = true then 28 else if (t.size : Int) > 512 then 37 else 0)) (fun k => by
  show zaX.j0 (k + 1) t b = _
  rw [zaX.j0]
  by_cases q : b = true
  ·rw [if_pos q, if_pos q]
  ·rw [if_neg q, if_neg q]
   by_cases q2 : (t.size : Int) > 512
   ·rw [if_pos q2, if_pos q2]
   ·rw [if_neg q2, if_neg q2]) (Ev.now _)
 by_cases hk : kind = 3
 ·rw [if_pos hk]
  by_cases he : t.toList = ([] : List UInt8)
  ·rw [if_pos (.inl (zbR.1 he))]
   exact Ev.congr (fun k => by unfold zaX.f; rw [if_pos hk, if_pos he]) (hj true)
  ·have h0 := idx_ge 0 (bytesOf t)
   refine Ev.congr (fun k => by unfold zaX.f; rw [if_pos hk, if_neg he]; simp only [strings_IndexByte.f, Option.bind_some]; rfl) (f := fun k => zaX.j0 k t (decide (Lib.indexByte (bytesOf t) 0 ≥ 0))) ?_
   have := hj (decide (Lib.indexByte (bytesOf t) 0 ≥ 0))
   by_cases hz : (0 : UInt8) ∈ bytesOf t
   ·rw [if_pos (.inr hz)]
    rw [if_pos (decide_eq_true (h0.2 hz))] at this; exact this
   ·rw [if_neg (fun q => q.elim (fun q => he (zbR.2 q)) hz)]
    rw [if_neg (by rw [decide_eq_true_eq]; exact fun q => hz (h0.1 q))] at this; exact this
 ·rw [if_neg hk]
  exact Ev.congr (fun k => by unfold zaX.f; rw [if_neg hk]) (Ev.now _)
theorem linkP_evs {l : List S45} (h : MayP l) (ns : List Int) (t : Int) : ∃ p : Bool, Ev (fun k => linkP k l ns t) p ∧ (p = true ↔ (∀ n ∈ ns, hasB l n = true) ∧ TimeP t) := by
 have hm := mayN_ev h.ev ns
 rw [Bool.true_and] at hm
 obtain ⟨b, hb, hbt⟩ := tree_time_ t
 unfold linkP
 by_cases q : (ns.all fun n => hasB l n) = true
 ·rw [q] at hm
  refine ⟨b, Ev.bind hm (Ev.congr (fun _ => if_pos rfl) (Ev.congr (fun _ => by rw [hb]; rfl) (Ev.now b))), hbt.trans ⟨fun h => ⟨by simpa using q, h⟩, And.right⟩⟩
 ·rw [Bool.not_eq_true] at q
  rw [q] at hm
  refine ⟨false, Ev.bind hm (Ev.congr (fun _ => if_neg (by simp)) (Ev.now _)), ⟨fun h => by (cases h), fun h => ?_⟩⟩
  have : (ns.all fun n => hasB l n) = true := by simpa using h.1
  rw [q] at this; cases this
theorem MayP.bad {l : List S45} (h : MayP l) (e : Int) : Ev (fun k => zaR.f k l e) (l, e) := bad_ev (by have := h.len; omega) h.fits.n e (fun _ => h.ev)
theorem MayP.own {l : List S45} (h : MayP l) : Ev (fun k => zaS.f k l) l := own_ev l (by have := h.len; omega) h.fits.n
theorem Link_ev {l : List S45} (h : MayP l) (node dir : Int) (s : ByteArray) (now : Int) : ∃ r : List S45 × Int, Ev (fun k => tree_Link.f k l node dir s now) r ∧ (r.2 ≠ 0 → r.1 = l) ∧ (r.2 = 0 → ∃ n d : Nat, node = (n : Int) ∧ dir = (d : Int) ∧ n < l.length ∧ d < l.length ∧ (zaf l (n : Int)).f0 ≠ 0 ∧ (zaf l (n : Int)).f0 ≠ 2 ∧ (zaf l (d : Int)).f0 = 2 ∧ zbI s = 0 ∧ (zaf l (d : Int)).f4 ≠ 0 ∧ bsAt (zaf l (d : Int)).f2 s = false ∧ (zaf l (d : Int)).f2.length < 64 ∧ TimeP now ∧ r.1 = zcm (addN l (d : Int) s (n : Int) now) (n : Int) 1) := by
 obtain ⟨p, hp, hpt⟩ := linkP_evs h [node, dir] now
 unfold tree_Link.f
 cases p with
 | false => exact ⟨_, Ev.bind hp (Ev.congr (fun _ => if_neg (by simp)) (h.bad 100)), fun _ => rfl, fun q => absurd (show (100 : Int) = 0 from q) (by decide)⟩
 | true =>
  obtain ⟨hall, ht⟩ := hpt.1 rfl
  obtain ⟨n, rfl, hn, hkn⟩ := hasB_of l node (hall node (by simp))
  obtain ⟨d, rfl, hd, hkd⟩ := hasB_of l dir (hall dir (by simp))
  have step : ∀ e : Int, Ev (fun k => linkE k l (n : Int) (d : Int) s) e → ∀ r, Ev (fun k => if e = 0 then (zaS.f k l).bind fun u => (linkD u (n : Int) (d : Int) s now).bind fun r => some (r, 0) else zaR.f k l e) r → Ev (fun k => (linkP k l [(n : Int), (d : Int)] now).bind fun p => if p = true then (linkE k l (n : Int) (d : Int) s).bind fun e => (if e = 0 then (zaS.f k l).bind fun u => (linkD u (n : Int) (d : Int) s now).bind fun r => some (r, 0) else zaR.f k l e) else zaR.f k l 100) r := fun e he r hr =>
   Ev.bind hp (Ev.congr (fun _ => if_pos rfl) (Ev.bind he hr))
  by_cases hk2 : (zaf l (n : Int)).f0 = 2
  ·have he : Ev (fun k => linkE k l (n : Int) (d : Int) s) 63 := by
    unfold linkE
    exact Ev.congr (fun k => by rw [dir_f l n hn, Option.bind_some, if_pos (by simpa using hk2)]) (Ev.now _)
   exact ⟨_, step 63 he _ (Ev.congr (fun _ => if_neg (by decide)) (h.bad 63)), fun _ => rfl, fun q => absurd (show (63 : Int) = 0 from q) (by decide)⟩
  ·have he : Ev (fun k => linkE k l (n : Int) (d : Int) s) (roomR l d s 0) := by
    unfold linkE
    exact Ev.congr (fun k => by rw [dir_f l n hn, Option.bind_some, if_neg (by simpa using hk2)]) (Ev.bind (room_ev h d hd s 0) (Ev.now _))
   by_cases h0 : roomR l d s 0 = 0
   ·obtain ⟨a1, a2, _, a4, a5, a6⟩ := roomR_zero h0
    have hdp := (h.nodes d hd).dir a1
    refine ⟨(zcm (addN l (d : Int) s (n : Int) now) (n : Int) 1, 0), step _ he _ (Ev.congr (fun _ => if_pos h0) (Ev.bind h.own ?_)), fun q => absurd rfl q, fun _ => ⟨n, d, rfl, rfl, hn, hd, hkn, hk2, a1, a2, a4, a5, by have := hdp.len; omega, ht, rfl⟩⟩
    unfold linkD
    rw [if_pos ⟨by omega, by omega, by omega, by omega, by have := hdp.len; omega, bs_le _ _⟩]
    exact Ev.now _
   ·exact ⟨_, step _ he _ (Ev.congr (fun _ => if_neg h0) (h.bad _)), fun _ => rfl, fun q => absurd q h0⟩
theorem gone_ev {l : List S45} (n : Nat) (hn : n < l.length) (isdir : Bool) : ∃ e : Int, Ev (fun k => zaQ.f k l (n : Int) isdir) e ∧ (e = 0 ↔ if isdir = true then (zaf l (n : Int)).f0 = 2 ∧ (zaf l (n : Int)).f2 = [] else (zaf l (n : Int)).f0 ≠ 2) ∧ e ≠ 44 := by
 have hd := dir_f l n hn
 cases isdir with
 | false =>
  by_cases hk : (zaf l (n : Int)).f0 = 2
  ·refine ⟨31, ⟨2, fun k hk2 => ?_⟩, by simp [hk], by decide⟩
   obtain ⟨m, rfl⟩ : ∃ m, k = m + 1 + 1 := ⟨k - 2, by omega⟩
   show zaQ.f (m + 1 + 1) l (n : Int) false = _
   unfold zaQ.f
   rw [if_neg (by simp), zaQ.j0, if_neg (by simp), if_neg (by simp), zaQ.j1, if_neg (by simp), if_neg (by simp), hd, Option.bind_some, if_pos (by simpa using hk)]
  ·refine ⟨0, ⟨2, fun k hk2 => ?_⟩, by simp [hk], by decide⟩
   obtain ⟨m, rfl⟩ : ∃ m, k = m + 1 + 1 := ⟨k - 2, by omega⟩
   show zaQ.f (m + 1 + 1) l (n : Int) false = _
   unfold zaQ.f
   rw [if_neg (by simp), zaQ.j0, if_neg (by simp), if_neg (by simp), zaQ.j1, if_neg (by simp), if_neg (by simp), hd, Option.bind_some, if_neg (by simpa using hk)]
 | true =>
  by_cases hk : (zaf l (n : Int)).f0 = 2
  ·by_cases hz : (zaf l (n : Int)).f2 = []
   ·refine ⟨0, ⟨2, fun k hk2 => ?_⟩, by simp [hk, hz], by decide⟩
    obtain ⟨m, rfl⟩ : ∃ m, k = m + 1 + 1 := ⟨k - 2, by omega⟩
    show zaQ.f (m + 1 + 1) l (n : Int) true = _
    unfold zaQ.f
    rw [if_pos rfl, hd, Option.bind_some, zaQ.j0, if_neg (by simpa using hk), if_pos rfl, if_pos (by omega), if_pos (by omega), zaQ.j1, if_neg (by rw [hz]; simp), if_pos rfl]
   ·refine ⟨55, ⟨2, fun k hk2 => ?_⟩, by simp [hk, hz], by decide⟩
    obtain ⟨m, rfl⟩ : ∃ m, k = m + 1 + 1 := ⟨k - 2, by omega⟩
    show zaQ.f (m + 1 + 1) l (n : Int) true = _
    unfold zaQ.f
    rw [if_pos rfl, hd, Option.bind_some, zaQ.j0, if_neg (by simpa using hk), if_pos rfl, if_pos (by omega), if_pos (by omega), zaQ.j1, if_pos]
    rw [decide_eq_true_eq]
    have := List.length_pos_iff.2 hz
    omega
  ·refine ⟨54, ⟨2, fun k hk2 => ?_⟩, by simp [hk], by decide⟩
   obtain ⟨m, rfl⟩ : ∃ m, k = m + 1 + 1 := ⟨k - 2, by omega⟩
   show zaQ.f (m + 1 + 1) l (n : Int) true = _
   unfold zaQ.f
   rw [if_pos rfl, hd, Option.bind_some, zaQ.j0, if_pos (by simpa using hk)]
theorem Unlink_ev {l : List S45} (h : MayP l) (dir : Int) (s : ByteArray) (isdir : Bool) (now : Int) : ∃ r : List S45 × Int, Ev (fun k => tree_Unlink.f k l dir s isdir now) r ∧ (r.2 ≠ 0 → r.1 = l) ∧
  (r.2 = 0 → ∃ n d : Nat, dir = (d : Int) ∧ n < l.length ∧ d < l.length ∧ (zaf l (d : Int)).f0 = 2 ∧ zbI s = 0 ∧ (⟨s, (n : Int)⟩ : S66) ∈ (zaf l (d : Int)).f2 ∧ (zaf l (n : Int)).f2 = [] ∧ TimeP now ∧ r.1 = zba (za0 l (d : Int) s now) (n : Int)) ∧
  (∀ n d : Nat, dir = (d : Int) → d < l.length → (zaf l (d : Int)).f0 = 2 → zbI s = 0 → (⟨s, (n : Int)⟩ : S66) ∈ (zaf l (d : Int)).f2 → isdir = false → (zaf l (n : Int)).f0 ≠ 2 → TimeP now → r.2 = 0) := by
 obtain ⟨p, hp, hpt⟩ := linkP_evs h [dir] now
 unfold tree_Unlink.f
 cases p with
 | false =>
  refine ⟨_, Ev.bind hp (Ev.congr (fun _ => if_neg (by simp)) (h.bad 100)), fun _ => rfl, fun q => absurd (show (100 : Int) = 0 from q) (by decide), fun n d e hd hk _ _ _ _ ht => ?_⟩
  have : false = true := hpt.2 ⟨fun n hn => by rw [List.mem_singleton.1 hn, e]; exact hasB_nd l d hd (by rw [hk]; decide), ht⟩
  cases this
 | true =>
  obtain ⟨hall, ht⟩ := hpt.1 rfl
  obtain ⟨d, rfl, hd, hkd⟩ := hasB_of l dir (hall dir (by simp))
  have step : ∀ q : Int × Int, Ev (fun k => unlinkE k l (d : Int) s isdir) q → ∀ r, Ev (fun k => if q.2 = 0 then (zaS.f k l).bind fun u => (unlinkD u q.1 (d : Int) s now).bind fun r => some (r, 0) else zaR.f k l q.2) r → Ev (fun k => (linkP k l [(d : Int)] now).bind fun p => if p = true then (unlinkE k l (d : Int) s isdir).bind fun q => (if q.2 = 0 then (zaS.f k l).bind fun u => (unlinkD u q.1 (d : Int) s now).bind fun r => some (r, 0) else zaR.f k l q.2) else zaR.f k l 100) r := fun q hq r hr =>
   Ev.bind hp (Ev.congr (fun _ => if_pos rfl) (Ev.bind hq hr))
  have hf := find_ev h d hd s
  obtain ⟨fn, fe⟩ : ∃ x, x = zbL l d s := ⟨_, rfl⟩
  by_cases h0 : (zbL l d s).2 = 0
  ·obtain ⟨a1, a2, a3⟩ := findR_zero h hd (show zbL l d s = ((zbL l d s).1, 0) from Prod.ext rfl h0)
   obtain ⟨n, hn, hn0, hnl, hnk⟩ := (h.names d hd _ a3).nat
   have hn : (zbL l d s).1 = (n : Int) := hn
   rw [hn] at a3
   have hdp := (h.nodes d hd).dir a1
   obtain ⟨e, he, hez, he44⟩ := gone_ev n hnl isdir (l := l)
   have hE : Ev (fun k => unlinkE k l (d : Int) s isdir) ((n : Int), e) := by
    unfold unlinkE
    refine Ev.bind hf (Ev.congr (fun _ => if_pos h0) ?_)
    rw [hn]
    exact Ev.bind he (Ev.now _)
   by_cases e0 : e = 0
   ·have hcond := hez.1 e0
    have hleaf : (zaf l (n : Int)).f2 = [] := by
     cases isdir with
     | true => rw [if_pos rfl] at hcond; exact hcond.2
     | false => rw [if_neg (by simp)] at hcond; exact (h.nodes n hnl).leaf hcond
    refine ⟨(zba (za0 l (d : Int) s now) (n : Int), 0), step _ hE _ (Ev.congr (fun _ => if_pos e0) (Ev.bind h.own ?_)), fun q => absurd rfl q, fun _ => ⟨n, d, rfl, hnl, hd, a1, a2, a3, hleaf, ht, rfl⟩, fun _ _ _ _ _ _ _ _ _ _ => rfl⟩
    unfold unlinkD
    rw [if_pos ⟨by omega, by omega, by omega, by omega, by have := hdp.len; omega, (bs_mem hdp.sorted a3).1⟩]
    exact Ev.now _
   ·refine ⟨_, step _ hE _ (Ev.congr (fun _ => if_neg e0) (h.bad _)), fun _ => rfl, fun q => absurd q e0, fun n' d' ed _ _ _ hm hi hk _ => ?_⟩
    obtain rfl : d = d' := Int.ofNat.inj ed
    have h1 := (bs_mem hdp.sorted a3).2
    rw [(bs_mem hdp.sorted hm).2] at h1
    injection h1 with _ h1
    obtain rfl : n' = n := Int.ofNat.inj h1
    exact absurd (hez.2 (by subst hi; rw [if_neg (by simp)]; exact hk)) e0
  ·have hE : Ev (fun k => unlinkE k l (d : Int) s isdir) (zbL l d s) := by
    unfold unlinkE
    exact Ev.bind hf (Ev.congr (fun _ => if_neg h0) (Ev.now _))
   refine ⟨_, step _ hE _ (Ev.congr (fun _ => if_neg h0) (h.bad _)), fun _ => rfl, fun q => absurd q h0, fun n' d' ed _ hk hs hm _ _ _ => ?_⟩
   obtain rfl : d = d' := Int.ofNat.inj ed
   rw [findR_mem h hd hk hs hm] at h0
   exact absurd rfl h0
theorem makeP_evs {l : List S45} (h : MayP l) (dir kind : Int) (target : ByteArray) (now : Int) : ∃ p : Bool, Ev (fun k => makeP k l dir kind target now) p ∧ (p = true ↔ hasB l dir = true ∧ TimeP now ∧ 1 ≤ kind ∧ kind ≤ 3 ∧ (kind = 3 ∨ target = ⟨#[]⟩)) := by
 have hm := mayN_ev h.ev [dir]
 rw [Bool.true_and] at hm
 obtain ⟨b, hb, hbt⟩ := tree_time_ now
 have e1 : ([dir].all fun n => hasB l n) = hasB l dir := by simp
 rw [e1] at hm
 unfold makeP
 by_cases q : hasB l dir = true
 ·rw [q] at hm
  refine ⟨b && (decide (1 ≤ kind) && (decide (kind ≤ 3) && (kind == 3 || target.toList == ([] : List UInt8)))), Ev.bind hm (Ev.congr (fun _ => if_pos rfl) (Ev.congr (fun _ => by rw [hb, Option.bind_some]) (Ev.now _))), ?_⟩
  simp only [Bool.and_eq_true, Bool.or_eq_true, decide_eq_true_eq, beq_iff_eq, zbR, hbt]
  exact ⟨fun h => ⟨q, h⟩, And.right⟩
 ·rw [Bool.not_eq_true] at q
  rw [q] at hm
  exact ⟨false, Ev.bind hm (Ev.congr (fun _ => if_neg (by simp)) (Ev.now _)), ⟨fun h => by (cases h), fun h => by rw [q] at h; cases h.1⟩⟩
theorem leadsR_zero {kind : Int} {t : ByteArray} (h1 : 1 ≤ kind) (h3 : kind ≤ 3) (ht : kind = 3 ∨ t = ⟨#[]⟩) (h : leadsR kind t = 0) : KindP kind t := by
 unfold leadsR at h
 by_cases hk : kind = 3
 ·rw [if_pos hk] at h
  by_cases h4 : t = ⟨#[]⟩ ∨ (0 : UInt8) ∈ bytesOf t
  ·rw [if_pos h4] at h; exact absurd h (by decide)
  ·rw [if_neg h4] at h
   by_cases h5 : (t.size : Int) > 512
   ·rw [if_pos h5] at h; exact absurd h (by decide)
   ·exact .inr (.inr ⟨hk, fun q => h4 (.inl q), by omega, fun q => h4 (.inr q)⟩)
 ·have h6 := ht.resolve_left hk
  by_cases h7 : kind = 1
  ·exact .inl ⟨h7, h6⟩
  ·exact .inr (.inl ⟨by omega, h6⟩)
theorem Make_ev {l : List S45} (h : MayP l) (dir : Int) (s : ByteArray) (kind : Int) (target : ByteArray) (now : Int) : ∃ r : List S45 × Int × Int, Ev (fun k => zbo.f k l dir s kind target now) r ∧ (r.2.2 ≠ 0 → r.1 = l) ∧
  (r.2.2 = 0 → ∃ n d : Nat, dir = (d : Int) ∧ d < l.length ∧ (zaf l (d : Int)).f0 = 2 ∧ zbI s = 0 ∧ (zaf l (d : Int)).f4 ≠ 0 ∧ bsAt (zaf l (d : Int)).f2 s = false ∧ (zaf l (d : Int)).f2.length < 64 ∧ n ≤ l.length ∧ n < 64 ∧ (n < l.length → (zaf l (n : Int)).f0 = 0) ∧ KindP kind target ∧ TimeP now ∧ r.2.1 = (n : Int) ∧ r.1 = addN (zbr l (n : Int) kind target now) (d : Int) s (n : Int) now) := by
 obtain ⟨p, hp, hpt⟩ := makeP_evs h dir kind target now
 unfold zbo.f
 have step : ∀ q : Int × Int, Ev (fun k => makeE k l dir s kind target now) q → ∀ r, Ev (fun k => if q.1 = 0 then (zaS.f k l).bind fun u => (if 0 ≤ q.2 ∧ q.2 ≤ (u.length : Int) ∧ u.length ≤ 1000000 then (makeD (zbr u q.2 kind target now) dir s q.2 now).bind fun r => some (r, q.2, 0) else none) else (zaR.f k l q.1).bind fun b => some (b.1, 0, b.2)) r → Ev (fun k => (makeE k l dir s kind target now).bind fun q => if q.1 = 0 then (zaS.f k l).bind fun u => (if 0 ≤ q.2 ∧ q.2 ≤ (u.length : Int) ∧ u.length ≤ 1000000 then (makeD (zbr u q.2 kind target now) dir s q.2 now).bind fun r => some (r, q.2, 0) else none) else (zaR.f k l q.1).bind fun b => some (b.1, 0, b.2)) r := fun q hq r hr => Ev.bind hq hr
 cases p with
 | false =>
  have hE : Ev (fun k => makeE k l dir s kind target now) (100, 0) := by
   unfold makeE
   exact Ev.bind hp (Ev.congr (fun _ => if_neg (by simp)) (Ev.now _))
  exact ⟨_, step _ hE (l, 0, 100) (Ev.congr (fun _ => if_neg (by decide)) (Ev.bind (h.bad 100) (Ev.now _))), fun _ => rfl, fun q => absurd (show (100 : Int) = 0 from q) (by decide)⟩
 | true =>
  obtain ⟨hh, ht, k1, k3, kt⟩ := hpt.1 rfl
  obtain ⟨d, rfl, hd, hkd⟩ := hasB_of l dir hh
  obtain ⟨n, hf, hn1, hn2, hn3⟩ := free_ev l h.len
  have hE : Ev (fun k => makeE k l (d : Int) s kind target now) (if roomR l d s (leadsR kind target) = 0 then (if (n : Int) = 64 then 51 else 0) else roomR l d s (leadsR kind target), (n : Int)) := by
   unfold makeE
   refine Ev.bind hp (Ev.congr (fun _ => if_pos rfl) ?_)
   unfold makeR
   exact Ev.bind hf (Ev.bind (leads_ev kind target) (Ev.bind (room_ev h d hd s _) (Ev.now _)))
  by_cases e0 : (if roomR l d s (leadsR kind target) = 0 then (if (n : Int) = 64 then (51 : Int) else 0) else roomR l d s (leadsR kind target)) = 0
  ·have e0' := e0
   by_cases r0 : roomR l d s (leadsR kind target) = 0
   ·rw [if_pos r0] at e0'
    have n64 : ¬ (n : Int) = 64 := fun q => by rw [if_pos q] at e0'; exact absurd e0' (by decide)
    obtain ⟨a1, a2, a3, a4, a5, a6⟩ := roomR_zero r0
    have hdp := (h.nodes d hd).dir a1
    have hlen := h.len
    have hnd : n ≠ d := fun q => by subst q; have := hn2 hd; omega
    refine ⟨(addN (zbr l (n : Int) kind target now) (d : Int) s (n : Int) now, (n : Int), 0), step _ hE _ (Ev.congr (fun _ => if_pos e0) (Ev.bind h.own ?_)), fun q => absurd rfl q, fun _ => ⟨n, d, rfl, hd, a1, a2, a4, a5, by have := hdp.len; omega, hn1, by omega, hn2, leadsR_zero k1 k3 kt a3, ht, rfl, rfl⟩⟩
    refine Ev.congr (fun _ => if_pos (show 0 ≤ (n : Int) ∧ (n : Int) ≤ (l.length : Int) ∧ l.length ≤ 1000000 from ⟨by omega, by omega, by omega⟩)) ?_
    change Ev (fun _ => (makeD (zbr l (n : Int) kind target now) (d : Int) s (n : Int) now).bind fun r => some (r, (n : Int), (0 : Int))) _
    have hdd := withNew_nd l n hn1 kind target now d
    rw [if_neg hnd] at hdd
    have hwl := withNew_len l n hn1 kind target now
    unfold makeD
    rw [if_pos ⟨by omega, by omega, by rw [hdd]; have := hdp.len; omega, bs_le _ _⟩]
    exact Ev.now _
   ·rw [if_neg r0] at e0'; exact absurd e0' r0
  ·exact ⟨_, step _ hE _ (Ev.congr (fun _ => if_neg e0) (Ev.bind (h.bad _) (Ev.now _))), fun _ => rfl, fun q => absurd q e0⟩
inductive Under (l : List S45) (n : Nat) : Nat → Prop
 | self : Under l n n
 | step {j m : Nat} {x : S66} (h : Under l n j) (hj : j < l.length) (hx : x ∈ (zaf l (j : Int)).f2) (hm : x.f1 = (m : Int)) (hk : (zaf l (m : Int)).f0 = 2) : Under l n m
theorem named_once {l : List S45} {m : Nat} (hc : cnt l m ≤ 1) {j j' : Nat} (hj : j < l.length) (hj' : j' < l.length) {x x' : S66} (hx : x ∈ (zaf l (j : Int)).f2) (hx' : x' ∈ (zaf l (j' : Int)).f2) (e : x.f1 = (m : Int)) (e' : x'.f1 = (m : Int)) : j = j' := by
 refine Classical.byContradiction fun hne => ?_
 have h1 : cnt (l.set j { (zaf l (j : Int)) with f2 := [] }) m + cntN (zaf l (j : Int)).f2 m = cnt l m + cntN [] m := cnt_set l j { (zaf l (j : Int)) with f2 := [] } hj m
 have h2 : 0 < cntN (zaf l (j : Int)).f2 m := cntN_pos.2 ⟨x, hx, e⟩
 have h3 : cnt (l.set j { (zaf l (j : Int)) with f2 := [] }) m ≠ 0 := fun q => by
  refine cnt_zero.1 q j' (by rw [List.length_set]; exact hj') x' ?_ e'
  rw [nd_set _ _ _ hj, if_neg hne]; exact hx'
 have h4 : cntN [] m = 0 := rfl
 omega
theorem above_ex (d : Int) : ∀ (L : List S45) (i : Int), (∃ y ∈ L, ∃ x ∈ y.f2, x.f1 = d) → ∃ (j : Nat) (hj : j < L.length), above d L i = (i + (j : Int), 0) ∧ ∃ x ∈ L[j].f2, x.f1 = d
 | [], _, h => by obtain ⟨y, hy, _⟩ := h; cases hy
 | a :: L, i, h => by
  by_cases q : (a.f2.any fun n => n.f1 == d) = true
  ·obtain ⟨x, hx, e⟩ := List.any_eq_true.1 q
   exact ⟨0, by simp, by rw [above, if_pos q]; simp, x, hx, by simpa using e⟩
  ·obtain ⟨y, hy, x, hx, e⟩ := h
   have hyL : y ∈ L := by
    rcases List.mem_cons.1 hy with rfl | hy
    ·exact absurd (List.any_eq_true.2 ⟨x, hx, by simpa using e⟩) q
    ·exact hy
   obtain ⟨j, hj, h1, h2⟩ := above_ex d L (i + 1) ⟨y, hyL, x, hx, e⟩
   refine ⟨j + 1, by simpa using hj, ?_, by simpa using h2⟩
   rw [above, if_neg q, h1]
   simp; omega
theorem MayP.above {l : List S45} (h : MayP l) {m j : Nat} (hm0 : 0 < m) (hm : m < l.length) (hk : (zaf l (m : Int)).f0 = 2) (hj : j < l.length) {x : S66} (hx : x ∈ (zaf l (j : Int)).f2) (e : x.f1 = (m : Int)) : above (m : Int) l 0 = ((j : Int), 0) := by
 obtain ⟨j', hj', h1, y, hy, e'⟩ := above_ex (m : Int) l 0 ⟨l[j], List.getElem_mem hj, x, by rw [zbU l j hj] at hx; exact hx, e⟩
 have h2 := h.links m hm0 hm
 have h3 := (h.dirs m hm0 hm hk).1
 have : j = j' := named_once (m := m) (by omega) hj hj' hx (by rw [zbU l j' hj']; exact hy) e e'
 subst this
 rw [h1]; simp
theorem below_ev {l : List S45} (h : MayP l) (n : Nat) {d : Nat} (hr : Reach l d) : ∃ b : Bool, Ev (fun k => za9.l0 k (d : Int) (n : Int) l) b ∧ (b = true ↔ Under l n d) := by
 have hself : ∀ d : Nat, d = n → ∃ b : Bool, Ev (fun k => za9.l0 k (d : Int) (n : Int) l) b ∧ (b = true ↔ Under l n d) := fun d e => by
  subst e
  exact ⟨true, Ev.step (f := fun _ => some true) (fun k => by rw [za9.l0, if_pos rfl]) (Ev.now _), ⟨fun _ => .self, fun _ => rfl⟩⟩
 induction hr with
 | root =>
  by_cases e : 0 = n
  ·exact hself 0 e
  ·refine ⟨false, Ev.step (f := fun _ => some false) (fun k => ?_) (Ev.now _), ⟨fun q => by (cases q), fun q => ?_⟩⟩
   ·show za9.l0 (k + 1) ((0 : Nat) : Int) (n : Int) l = _
    rw [za9.l0, if_neg (by omega)]
    unfold za5.f
    rw [if_pos (by omega), Option.bind_some, if_pos rfl, if_pos (by omega)]
   ·cases q with
    | self => exact absurd rfl e
    | step hu hj hx hm hk =>
     obtain ⟨m, h1, h2, _⟩ := (h.names _ hj _ hx).nat
     omega
 | @step j x hj hjl hx hd ih =>
  obtain ⟨m, hm, hm0, hml, _⟩ := (h.names j hjl x hx).nat
  rw [hm, Int.toNat_natCast]
  rw [hm] at hd
  by_cases e : m = n
  ·exact hself m e
  ·obtain ⟨b, hb, hbu⟩ := ih
   have hab := h.above hm0 hml hd hjl hx hm
   refine ⟨b, Ev.step (fun k => ?_) hb, hbu.trans ⟨fun q => .step q hjl hx hm hd, fun q => ?_⟩⟩
   ·show za9.l0 (k + 1) (m : Int) (n : Int) l = _
    rw [za9.l0, if_neg (by omega)]
    unfold za5.f
    rw [if_neg (by omega), hab, Option.bind_some, if_pos rfl, if_neg (by omega)]
   ·cases q with
    | self => exact absurd rfl e
    | @step j' _ x' hu hj' hx' hm' hk' =>
     have h2 := h.links m hm0 hml
     have h3 := (h.dirs m hm0 hml hd).1
     have : j' = j := named_once (m := m) (by omega) hj' hjl hx' hx hm' hm
     subst this; exact hu
def moveN (l : List S45) (d1 : Nat) (s1 : ByteArray) (d2 : Nat) (s2 : ByteArray) (n : Int) (now : Int) : List S45 := addN (za0 l (d1 : Int) s1 now) (d2 : Int) s2 n now
theorem MayP.move {l : List S45} (h : MayP l) {d1 d2 : Nat} (hd1 : d1 < l.length) (hd2 : d2 < l.length) (hk1 : (zaf l (d1 : Int)).f0 = 2) (hk2 : (zaf l (d2 : Int)).f0 = 2) (h4 : (zaf l (d2 : Int)).f4 ≠ 0) {s1 s2 : ByteArray} (hs2 : zbI s2 = 0) {n : Nat} (hm : (⟨s1, (n : Int)⟩ : S66) ∈ (zaf l (d1 : Int)).f2) (hb : bsAt (zaf l (d2 : Int)).f2 s2 = false) (hl : d1 ≠ d2 → (zaf l (d2 : Int)).f2.length < 64) (hu : ¬ Under l n d2) {now : Int} (ht : TimeP now) : MayP (moveN l d1 s1 d2 s2 (n : Int) now) := by
 obtain ⟨n', hn', hn0, hn, hk0⟩ := (h.names d1 hd1 _ hm).nat
 obtain rfl : n = n' := Int.ofNat.inj hn'
 have hdp1 := (h.nodes d1 hd1).dir hk1
 have hdp2 := (h.nodes d2 hd2).dir hk2
 have hlr : (za0 l (d1 : Int) s1 now).length = l.length := zb4 ..
 have hlen : (moveN l d1 s1 d2 s2 (n : Int) now).length = l.length := by unfold moveN; rw [addN_len, hlr]
 have hrm := zb9 l d1 hd1 s1 now
 have hc : ∀ i, cnt (moveN l d1 s1 d2 s2 (n : Int) now) i = cnt l i := fun i => by
  unfold moveN; rw [addN_cnt _ _ (by omega)]
  exact removeN_cnt l d1 hd1 s1 (n : Int) now hdp1.sorted hm i
 have hrd : ∀ j : Nat, (zaf (moveN l d1 s1 d2 s2 (n : Int) now) (j : Int)) = if d2 = j then { (zaf (za0 l (d1 : Int) s1 now) (d2 : Int)) with f2 := insN (zaf (za0 l (d1 : Int) s1 now) (d2 : Int)).f2 s2 (n : Int), f5 := now } else (zaf (za0 l (d1 : Int) s1 now) (j : Int)) := fun j => by
  unfold moveN; rw [addN_nd _ _ (by omega)]
 generalize moveN l d1 s1 d2 s2 (n : Int) now = l' at *
 have hE : DirP (zaf (za0 l (d1 : Int) s1 now) (d2 : Int)) ∧ bsAt (zaf (za0 l (d1 : Int) s1 now) (d2 : Int)).f2 s2 = false ∧ (zaf (za0 l (d1 : Int) s1 now) (d2 : Int)).f2.length < 64 := by
  rw [hrm]
  by_cases e : d1 = d2
  ·subst e
   rw [if_pos rfl]
   refine ⟨hdp1.del s1 now ht, ?_, ?_⟩
   ·show bsAt (delN (zaf l (d1 : Int)).f2 s1) s2 = false
    rw [Bool.eq_false_iff]
    intro q
    obtain ⟨z, hz⟩ := (zcd (delN_sorted hdp1.sorted s1) s2).1 q
    rw [(zcd hdp1.sorted s2).2 ⟨z, delN_sub hz⟩] at hb; cases hb
   ·show (delN (zaf l (d1 : Int)).f2 s1).length < 64
    have h1 := bs_mem hdp1.sorted hm
    rw [delN_len h1.1]; have := hdp1.len; omega
  ·rw [if_neg e]; exact ⟨hdp2, hb, hl e⟩
 have hsame : ∀ j : Nat, (zaf l' (j : Int)).f0 = (zaf l (j : Int)).f0 ∧ (zaf l' (j : Int)).f4 = (zaf l (j : Int)).f4 := fun j => by
  rw [hrd]
  by_cases e2 : d2 = j
  ·subst e2; rw [if_pos rfl]; show (zaf (za0 l (d1 : Int) s1 now) (d2 : Int)).f0 = _ ∧ (zaf (za0 l (d1 : Int) s1 now) (d2 : Int)).f4 = _
   rw [hrm]
   by_cases e1 : d1 = d2
   ·subst e1; rw [if_pos rfl]; exact ⟨rfl, rfl⟩
   ·rw [if_neg e1]; exact ⟨rfl, rfl⟩
  ·rw [if_neg e2, hrm]
   by_cases e1 : d1 = j
   ·subst e1; rw [if_pos rfl]; exact ⟨rfl, rfl⟩
   ·rw [if_neg e1]; exact ⟨rfl, rfl⟩
 have hrest : ∀ j : Nat, ∀ x ∈ (zaf l (j : Int)).f2, x.f1 ≠ (n : Int) → x ∈ (zaf (za0 l (d1 : Int) s1 now) (j : Int)).f2 := fun j x hx hne => by
  rw [hrm]
  by_cases e1 : d1 = j
  ·subst e1; rw [if_pos rfl]
   refine (delN_mem hdp1.sorted hm).2 ⟨hx, fun es => hne ?_⟩
   have h1 := (bs_mem hdp1.sorted hm).2
   have h2 := (bs_mem (n := x.f1) hdp1.sorted (show (⟨s1, x.f1⟩ : S66) ∈ (zaf l (d1 : Int)).f2 by rw [← es]; exact hx)).2
   rw [h1] at h2
   injection h2 with _ h3
   exact h3.symm
  ·rw [if_neg e1]; exact hx
 have hsub : ∀ j : Nat, ∀ x ∈ (zaf l (j : Int)).f2, x.f1 ≠ (n : Int) → x ∈ (zaf l' (j : Int)).f2 := fun j x hx hne => by
  have h1 := hrest j x hx hne
  rw [hrd]
  by_cases e2 : d2 = j
  ·subst e2; rw [if_pos rfl]; exact zb1.2 (.inr h1)
  ·rw [if_neg e2]; exact h1
 have hback : ∀ j : Nat, ∀ x ∈ (zaf (za0 l (d1 : Int) s1 now) (j : Int)).f2, x ∈ (zaf l (j : Int)).f2 := fun j x hx => by
  rw [hrm] at hx
  by_cases e1 : d1 = j
  ·subst e1; rw [if_pos rfl] at hx; exact delN_sub hx
  ·rw [if_neg e1] at hx; exact hx
 have hnew : (⟨s2, (n : Int)⟩ : S66) ∈ (zaf l' (d2 : Int)).f2 := by rw [hrd, if_pos rfl]; exact zb1.2 (.inl rfl)
 have hfar : ∀ i, Reach l i → ¬ Under l n i → Reach l' i := fun i hr => by
  induction hr with
  | root => exact fun _ => .root
  | @step j x hj hjl hx hd ih =>
   intro hnu
   obtain ⟨m, hm', hm0, hml, _⟩ := (h.names j hjl x hx).nat
   rw [hm', Int.toNat_natCast] at hnu
   rw [hm'] at hd
   have hj' := ih fun q => hnu (.step q hjl hx hm' hd)
   have hmn : m ≠ n := fun q => hnu (by rw [q]; exact .self)
   have := Reach.step hj' (by omega) (hsub j x hx (by omega)) (by rw [hm', (hsame m).1]; exact hd)
   exact this
 have hnear : (zaf l (n : Int)).f0 = 2 → ∀ i, Under l n i → Reach l' i := fun hkn i hi => by
  have hrn : Reach l' n := by
   have := Reach.step (hfar d2 (h.reach hd2 hk2 h4) hu) (by omega) hnew (by rw [(hsame n).1]; exact hkn)
   rwa [Int.toNat_natCast] at this
  induction hi with
  | self => exact hrn
  | @step j m x hu' hj hx hm' hk ih =>
   by_cases e : m = n
   ·rw [e]; exact hrn
   ·have := Reach.step ih (by omega) (hsub j x hx (by omega)) (by rw [hm', (hsame m).1]; exact hk)
    rw [hm', Int.toNat_natCast] at this; exact this
 have hreach : ∀ i, Reach l i → (zaf l (i : Int)).f0 = 2 → Reach l' i := fun i hr hki => by
  by_cases q : Under l n i
  ·by_cases hkn : (zaf l (n : Int)).f0 = 2
   ·exact hnear hkn i q
   ·exfalso
    have hleaf := (h.nodes n hn).leaf hkn
    have : ∀ i, Under l n i → i = n := fun i hi => by
     induction hi with
     | self => rfl
     | step _ _ hx _ _ ih => rw [ih] at hx; rw [hleaf] at hx; cases hx
    rw [this i q] at hki; exact hkn hki
  ·exact hfar i hr q
 refine h.edit hlen (fun j _ => (hsame j).1) (by rw [(hsame 0).2]; exact h.l0) (fun j hj => ?_) (fun j hj x hx => ?_) (fun i h0 hi => by rw [(hsame i).2, hc]; exact h.links i h0 hi) (fun i h0 hi hki => ?_)
 ·rw [hrd]
  by_cases e2 : d2 = j
  ·subst e2; rw [if_pos rfl]
   have hk : (zaf (za0 l (d1 : Int) s1 now) (d2 : Int)).f0 = 2 := by
    rw [hrm]
    by_cases e1 : d1 = d2
    ·subst e1; rw [if_pos rfl]; exact hk1
    ·rw [if_neg e1]; exact hk2
   exact (hE.1.ins hs2 hE.2.1 hE.2.2 _ _ ht).node hk
  ·rw [if_neg e2, hrm]
   by_cases e1 : d1 = j
   ·subst e1; rw [if_pos rfl]; exact (hdp1.del s1 now ht).node hk1
   ·rw [if_neg e1]; exact h.nodes j hj
 ·rw [hrd] at hx
  by_cases e2 : d2 = j
  ·subst e2; rw [if_pos rfl] at hx
   rcases zb1.1 hx with rfl | hx
   ·exact nameIn_of rfl hn0 hn hk0
   ·exact h.names d2 hd2 x (hback d2 x hx)
  ·rw [if_neg e2] at hx; exact h.names j hj x (hback j x hx)
 ·have hD := h.dirs i h0 hi hki
  rw [(hsame i).2]
  refine ⟨hD.1, fun q => ?_, fun q => hreach i (hD.2.2 q) hki⟩
  have hz := hD.2.1 q
  have e1 : d1 ≠ i := fun e => by subst e; rw [hz] at hm; cases hm
  have e2 : d2 ≠ i := fun e => by subst e; exact h4 q
  rw [hrd, if_neg e2, hrm, if_neg e1]; exact hz
theorem Under.sub {l l' : List S45} {n : Nat} (hlen : l'.length = l.length) (hs : ∀ j : Nat, ∀ x ∈ (zaf l' (j : Int)).f2, x ∈ (zaf l (j : Int)).f2) (hk : ∀ m : Nat, (zaf l' (m : Int)).f0 = (zaf l (m : Int)).f0) {i : Nat} (h : Under l' n i) : Under l n i := by
 induction h with
 | self => exact .self
 | step _ hj hx hm hk' ih => exact .step ih (by omega) (hs _ _ hx) hm (by rw [← hk]; exact hk')
theorem moves_ev {l : List S45} (h : MayP l) {n d1 d2 : Nat} (hn : n < l.length) (hd2 : d2 < l.length) (hr : Reach l d2) (old : Int) (ho : ∀ o : Nat, old = (o : Int) → o < l.length) (s2 : ByteArray) : ∃ e : Int, Ev (fun k => zaZ.f k l (n : Int) (d1 : Int) (d2 : Int) old s2) e ∧
  (e = 0 ↔ ¬ ((zaf l (n : Int)).f0 = 2 ∧ Under l n d2) ∧ (∀ o : Nat, old = (o : Int) → if (zaf l (n : Int)).f0 = 2 then (zaf l (o : Int)).f0 = 2 ∧ (zaf l (o : Int)).f2 = [] else (zaf l (o : Int)).f0 ≠ 2) ∧ (old < 0 → d1 ≠ d2 → (zaf l (d2 : Int)).f2.length ≠ 64)) := by
 obtain ⟨b, hb, hbu⟩ := below_ev h n hr
 have hj : ∀ f : Bool, ∃ e : Int, Ev (fun k => zaZ.j0 k (n : Int) (d1 : Int) (d2 : Int) old f l) e ∧ (e = 0 ↔ f = false ∧ (∀ o : Nat, old = (o : Int) → if (zaf l (n : Int)).f0 = 2 then (zaf l (o : Int)).f0 = 2 ∧ (zaf l (o : Int)).f2 = [] else (zaf l (o : Int)).f0 ≠ 2) ∧ (old < 0 → d1 ≠ d2 → (zaf l (d2 : Int)).f2.length ≠ 64)) := by
  intro f
  cases f with
  | true =>
   refine ⟨28, Ev.step (f := fun _ => some 28) (fun k => ?_) (Ev.now _), ⟨fun q => absurd q (by decide), fun q => by (cases q.1)⟩⟩
   show zaZ.j0 (k + 1) (n : Int) (d1 : Int) (d2 : Int) old true l = _
   rw [zaZ.j0, if_pos rfl]
  | false =>
   by_cases q : 0 ≤ old
   ·obtain ⟨o, rfl⟩ : ∃ o : Nat, old = (o : Int) := ⟨old.toNat, by omega⟩
    have hol := ho o rfl
    obtain ⟨e, he, hez, _⟩ := gone_ev (l := l) o hol ((zaf l (n : Int)).f0 == 2)
    refine ⟨e, Ev.step (f := fun k => (zaQ.f k l (o : Int) ((zaf l (n : Int)).f0 == 2)).bind fun t => some t) (fun k => ?_) (Ev.bind he (Ev.now _)), hez.trans ?_⟩
    ·show zaZ.j0 (k + 1) (n : Int) (d1 : Int) (d2 : Int) (o : Int) false l = _
     rw [zaZ.j0, if_neg (by simp), if_pos (by omega), dir_f l n hn, Option.bind_some]
    ·simp only [beq_iff_eq]
     constructor
     ·exact fun h1 => ⟨trivial, fun o' e' => by obtain rfl : o = o' := Int.ofNat.inj e'; exact h1, fun h2 => by omega⟩
     ·exact fun h1 => h1.2.1 o rfl
   ·have hp : ∀ x : Option Int, (if 0 ≤ (d2 : Int) then (if (d2 : Int) < (l.length : Int) then x else none) else none) = x := fun x => by rw [if_pos (by omega), if_pos (by omega)]
    by_cases q2 : (zaf l (d2 : Int)).f2.length = 64
    ·by_cases q3 : d1 = d2
     ·refine ⟨0, Ev.step (f := fun _ => some 0) (fun k => ?_) (Ev.now _), ⟨fun _ => ⟨rfl, fun o e => by omega, fun _ h2 => absurd q3 h2⟩, fun _ => rfl⟩⟩
      show zaZ.j0 (k + 1) (n : Int) (d1 : Int) (d2 : Int) old false l = _
      rw [zaZ.j0, if_neg (by simp), if_neg (by omega), hp, if_pos (by omega), if_pos (by omega)]
     ·refine ⟨51, Ev.step (f := fun _ => some 51) (fun k => ?_) (Ev.now _), ⟨fun h1 => absurd h1 (by decide), fun h1 => absurd q2 (h1.2.2 (by omega) q3)⟩⟩
      show zaZ.j0 (k + 1) (n : Int) (d1 : Int) (d2 : Int) old false l = _
      rw [zaZ.j0, if_neg (by simp), if_neg (by omega), hp, if_pos (by omega), if_neg (by omega)]
    ·refine ⟨0, Ev.step (f := fun _ => some 0) (fun k => ?_) (Ev.now _), ⟨fun _ => ⟨rfl, fun o e => by omega, fun _ _ => q2⟩, fun _ => rfl⟩⟩
     show zaZ.j0 (k + 1) (n : Int) (d1 : Int) (d2 : Int) old false l = _
     rw [zaZ.j0, if_neg (by simp), if_neg (by omega), hp, if_neg (by omega)]
 by_cases hk : (zaf l (n : Int)).f0 = 2
 ·obtain ⟨e, he, hez⟩ := hj b
  refine ⟨e, Ev.congr (fun k => by unfold zaZ.f; rw [dir_f l n hn, Option.bind_some, if_pos (by simpa using hk)]) (Ev.bind (show Ev (fun k => za9.f k l (d2 : Int) (n : Int)) b from hb) he), hez.trans (and_congr_left fun _ => ?_)⟩
  rw [Bool.eq_false_iff, Ne, hbu]
  exact ⟨fun h1 h2 => h1 h2.2, fun h1 h2 => h1 ⟨hk, h2⟩⟩
 ·obtain ⟨e, he, hez⟩ := hj false
  refine ⟨e, Ev.congr (fun k => by unfold zaZ.f; rw [dir_f l n hn, Option.bind_some, if_neg (by simpa using hk)]) he, hez.trans (and_congr_left fun _ => ?_)⟩
  exact ⟨fun _ h2 => hk h2.1, fun _ => rfl⟩
theorem same_name {ns : List S66} (hs : Sorted ns) {s : ByteArray} {a b : Int} (h1 : (⟨s, a⟩ : S66) ∈ ns) (h2 : (⟨s, b⟩ : S66) ∈ ns) : a = b := by
 have e1 := (bs_mem hs h1).2
 rw [(bs_mem hs h2).2] at e1
 injection e1 with _ e; exact e.symm
theorem renD_ok {u : List S45} {v : List S45} {n : Int} {old : Int} {d1 d2 : Nat} {s1 s2 : ByteArray} {now : Int} (hd1 : d1 < u.length) (hd2 : d2 < u.length) (hol : old < (u.length : Int)) (hv : renU u old (d2 : Int) s2 now = v) (hvl : v.length = u.length) (h1 : (zaf u (d2 : Int)).f2.length ≤ 64) (h2 : 0 ≤ old → bs (zaf u (d2 : Int)).f2 s2 < (zaf u (d2 : Int)).f2.length) (hs : Sorted (zaf v (d1 : Int)).f2) (h3 : (zaf v (d1 : Int)).f2.length ≤ 64) (h3' : (zaf v (d2 : Int)).f2.length ≤ 64) (hm : (⟨s1, n⟩ : S66) ∈ (zaf v (d1 : Int)).f2) :
  renD u n old (d1 : Int) s1 (d2 : Int) s2 now = some (moveN v d1 s1 d2 s2 n now) := by
 have hb := (bs_mem hs hm).1
 have hr : (zaf (za0 v (d1 : Int) s1 now) (d2 : Int)).f2.length ≤ 64 := by
  rw [zb9 v d1 (by omega)]
  by_cases e : d1 = d2
  ·subst e; rw [if_pos rfl]; show (delN _ _).length ≤ 64; rw [delN_len hb]; omega
  ·rw [if_neg e]; exact h3'
 unfold renD
 rw [hv, if_pos ⟨by omega, by omega, by omega, by omega, hol, fun q => ⟨by omega, h2 q⟩, by omega, hb, by omega, bs_le _ _⟩]
 rfl
theorem Rename_ev {l : List S45} (h : MayP l) (d1 : Int) (s1 : ByteArray) (d2 : Int) (s2 : ByteArray) (now : Int) : ∃ r : List S45 × Int, Ev (fun k => zb3.f k l d1 s1 d2 s2 now) r ∧ (r.2 ≠ 0 → r.1 = l) ∧ (r.2 = 0 → MayP r.1) ∧
  (∀ a b n : Nat, d1 = (a : Int) → d2 = (b : Int) → a < l.length → b < l.length → (zaf l (a : Int)).f0 = 2 → (zaf l (b : Int)).f0 = 2 → (⟨s1, (n : Int)⟩ : S66) ∈ (zaf l (a : Int)).f2 → (zaf l (n : Int)).f0 ≠ 2 → zbI s2 = 0 → bsAt (zaf l (b : Int)).f2 s2 = false →
   (r.2 = 0 → r.1 = moveN l a s1 b s2 (n : Int) now ∧ (zaf l (b : Int)).f4 ≠ 0 ∧ TimeP now) ∧ ((zaf l (b : Int)).f4 ≠ 0 → TimeP now → a = b → r.2 = 0)) := by
 obtain ⟨p, hp, hpt⟩ := linkP_evs h [d1, d2] now
 have hlen := h.len
 unfold zb3.f
 cases p with
 | false =>
  refine ⟨_, Ev.bind hp (Ev.congr (fun _ => if_neg (by simp)) (h.bad 100)), fun _ => rfl, fun q => absurd (show (100 : Int) = 0 from q) (by decide), fun a b n ea eb ha hb hka hkb _ _ _ _ => ⟨fun q => absurd (show (100 : Int) = 0 from q) (by decide), fun _ ht _ => ?_⟩⟩
  have : false = true := hpt.2 ⟨fun x hx => by
   rcases List.mem_cons.1 hx with rfl | hx
   ·rw [ea]; exact hasB_nd l a ha (by rw [hka]; decide)
   ·rw [List.mem_singleton.1 hx, eb]; exact hasB_nd l b hb (by rw [hkb]; decide), ht⟩
  cases this
 | true =>
  obtain ⟨hall, ht⟩ := hpt.1 rfl
  obtain ⟨a, rfl, ha, hka0⟩ := hasB_of l d1 (hall d1 (by simp))
  obtain ⟨b, rfl, hb, hkb0⟩ := hasB_of l d2 (hall d2 (by simp))
  have hf1 := find_ev h a ha s1
  have hf2 := find_ev h b hb s2
  have step1 : ∀ r : List S45 × Int, Ev (fun k => if (zbL l a s1).2 = 0 then (zbb.f k l (b : Int) s2).bind fun q2 => (if q2.2 = 44 then renB k l (zbL l a s1).1 (-1) (a : Int) s1 (b : Int) s2 now else if q2.2 = 0 then renB k l (zbL l a s1).1 q2.1 (a : Int) s1 (b : Int) s2 now else zaR.f k l q2.2) else zaR.f k l (zbL l a s1).2) r → Ev (fun k => (linkP k l [(a : Int), (b : Int)] now).bind fun p => if p = true then (zbb.f k l (a : Int) s1).bind fun q => (if q.2 = 0 then (zbb.f k l (b : Int) s2).bind fun q2 => (if q2.2 = 44 then renB k l q.1 (-1) (a : Int) s1 (b : Int) s2 now else if q2.2 = 0 then renB k l q.1 q2.1 (a : Int) s1 (b : Int) s2 now else zaR.f k l q2.2) else zaR.f k l q.2) else zaR.f k l 100) r := fun r hr => Ev.bind hp (Ev.congr (fun _ => if_pos rfl) (Ev.bind hf1 hr))
  by_cases e1 : (zbL l a s1).2 = 0
  ·obtain ⟨hka, hs1, hm0⟩ := findR_zero h ha (show zbL l a s1 = ((zbL l a s1).1, 0) from Prod.ext rfl e1)
   obtain ⟨n, hn, hn0, hnl, hnk⟩ := (h.names a ha _ hm0).nat
   have hn : (zbL l a s1).1 = (n : Int) := hn
   rw [hn] at hm0
   have hda := (h.nodes a ha).dir hka
   rw [hn] at step1
   have step2 : ∀ r : List S45 × Int, Ev (fun k => if (zbL l b s2).2 = 44 then renB k l (n : Int) (-1) (a : Int) s1 (b : Int) s2 now else if (zbL l b s2).2 = 0 then renB k l (n : Int) (zbL l b s2).1 (a : Int) s1 (b : Int) s2 now else zaR.f k l (zbL l b s2).2) r → Ev (fun k => (linkP k l [(a : Int), (b : Int)] now).bind fun p => if p = true then (zbb.f k l (a : Int) s1).bind fun q => (if q.2 = 0 then (zbb.f k l (b : Int) s2).bind fun q2 => (if q2.2 = 44 then renB k l q.1 (-1) (a : Int) s1 (b : Int) s2 now else if q2.2 = 0 then renB k l q.1 q2.1 (a : Int) s1 (b : Int) s2 now else zaR.f k l q2.2) else zaR.f k l q.2) else zaR.f k l 100) r := fun r hr => step1 r (Ev.congr (fun _ => if_pos e1) (Ev.bind hf2 hr))
   have last : ∀ old : Int, (zaf l (b : Int)).f0 = 2 → zbI s2 = 0 → ((old = -1 ∧ bsAt (zaf l (b : Int)).f2 s2 = false) ∨ ∃ o : Nat, old = (o : Int) ∧ o < l.length ∧ (⟨s2, (o : Int)⟩ : S66) ∈ (zaf l (b : Int)).f2) → ∃ r : List S45 × Int, Ev (fun k => renB k l (n : Int) old (a : Int) s1 (b : Int) s2 now) r ∧ (r.2 ≠ 0 → r.1 = l) ∧ (r.2 = 0 → MayP r.1) ∧ (old = -1 → (zaf l (n : Int)).f0 ≠ 2 → (r.2 = 0 → r.1 = moveN l a s1 b s2 (n : Int) now ∧ (zaf l (b : Int)).f4 ≠ 0) ∧ ((zaf l (b : Int)).f4 ≠ 0 → a = b → r.2 = 0)) := by
    intro old hkb hs2 hold
    have hdb := (h.nodes b hb).dir hkb
    have hin : ∀ x : Option (List S45 × Int), (if 0 ≤ (b : Int) ∧ (b : Int) < (l.length : Int) then x else none) = x := fun x => if_pos ⟨by omega, by omega⟩
    by_cases z4 : (zaf l (b : Int)).f4 = 0
    ·exact ⟨_, Ev.congr (fun k => by unfold renB; rw [hin, if_pos z4]) (h.bad 44), fun _ => rfl, fun q => absurd (show (44 : Int) = 0 from q) (by decide), fun _ _ => ⟨fun q => absurd (show (44 : Int) = 0 from q) (by decide), fun q => absurd z4 q⟩⟩
    ·by_cases zo : old = (n : Int)
     ·exact ⟨(l, 0), Ev.congr (fun k => by unfold renB; rw [hin, if_neg z4, if_pos zo]) (Ev.bind h.own (Ev.now _)), fun q => absurd rfl q, fun _ => h, fun q => by omega⟩
     ·have hr := h.reach hb hkb z4
      obtain ⟨e, he, hez⟩ := moves_ev (d1 := a) h hnl hb hr old (fun o eo => by
       rcases hold with ⟨q, _⟩ | ⟨o', q, q2, _⟩
       ·omega
       ·omega) s2
      by_cases e0 : e = 0
      ·obtain ⟨c1, c2, c3⟩ := hez.1 e0
       have hgo : ∀ v : List S45, renD l (n : Int) old (a : Int) s1 (b : Int) s2 now = some v → Ev (fun k => renB k l (n : Int) old (a : Int) s1 (b : Int) s2 now) (v, 0) := fun v hv => Ev.congr (fun k => by unfold renB; rw [hin, if_neg z4, if_neg zo]) (Ev.bind he (Ev.congr (fun _ => if_pos e0) (Ev.bind h.own (Ev.congr (fun _ => by rw [hv]; rfl) (Ev.now (v, (0 : Int)))))))
       have hnu : ¬ Under l n b := fun hu => by
        by_cases hkn : (zaf l (n : Int)).f0 = 2
        ·exact c1 ⟨hkn, hu⟩
        ·have hleaf := (h.nodes n hnl).leaf hkn
         have : ∀ i, Under l n i → i = n := fun i hi => by
          induction hi with
          | self => rfl
          | step _ _ hx _ _ ih => rw [ih] at hx; rw [hleaf] at hx; cases hx
         rw [this b hu] at hkb; exact hkn hkb
       rcases hold with ⟨rfl, hat⟩ | ⟨o, rfl, hol, hmo⟩
       ·have hv : renU l (-1) (b : Int) s2 now = l := if_neg (by decide)
        have hrd := renD_ok (n := (n : Int)) (old := -1) (s1 := s1) ha hb (by omega) hv rfl hdb.len (fun q => absurd q (by decide)) hda.sorted hda.len hdb.len hm0
        refine ⟨_, hgo _ hrd, fun q => absurd rfl q, fun _ => ?_, fun _ _ => ⟨fun _ => ⟨rfl, z4⟩, fun _ _ => rfl⟩⟩
        refine h.move ha hb hka hkb z4 hs2 hm0 hat (fun hne => ?_) hnu ht
        have := hdb.len; have := c3 (by decide) hne; omega
       ·have hon : o ≠ n := fun q => zo (by rw [q])
        have hoc := c2 o rfl
        have hleaf : (zaf l (o : Int)).f2 = [] := by
         by_cases hkn : (zaf l (n : Int)).f0 = 2
         ·rw [if_pos hkn] at hoc; exact hoc.2
         ·rw [if_neg hkn] at hoc; exact (h.nodes o hol).leaf hoc
        have hu := h.unlink hb hkb hmo hleaf ht
        have hbo : b ≠ o := fun q => by subst q; rw [hleaf] at hmo; cases hmo
        have hnd : ∀ j : Nat, (zaf (zba (za0 l (b : Int) s2 now) (o : Int)) (j : Int)).f0 = (zaf l (j : Int)).f0 ∧ (zaf (zba (za0 l (b : Int) s2 now) (o : Int)) (j : Int)).f2 = (if b = j then delN (zaf l (b : Int)).f2 s2 else (zaf l (j : Int)).f2) ∧ (j ≠ o → (zaf (zba (za0 l (b : Int) s2 now) (o : Int)) (j : Int)).f4 = (zaf l (j : Int)).f4) := fun j => by
         rw [linksDown_nd _ _ (by rw [zb4]; exact hol), zb9 l b hb, zb9 l b hb]
         by_cases q : o = j
         ·subst q; rw [if_pos rfl, if_neg hbo]; exact ⟨rfl, by rw [if_neg hbo], fun q => absurd rfl q⟩
         ·rw [if_neg q]
          by_cases q2 : b = j
          ·subst q2; rw [if_pos rfl, if_pos rfl]; exact ⟨rfl, rfl, fun _ => rfl⟩
          ·rw [if_neg q2, if_neg q2]; exact ⟨rfl, rfl, fun _ => rfl⟩
        have hvl : (zba (za0 l (b : Int) s2 now) (o : Int)).length = l.length := by rw [linksDown_len, zb4]
        have hv : renU l (o : Int) (b : Int) s2 now = zba (za0 l (b : Int) s2 now) (o : Int) := if_pos (by omega)
        generalize zba (za0 l (b : Int) s2 now) (o : Int) = v at *
        have hkva : (zaf v (a : Int)).f0 = 2 := by rw [(hnd a).1]; exact hka
        have hkvb : (zaf v (b : Int)).f0 = 2 := by rw [(hnd b).1]; exact hkb
        have hva := (hu.nodes a (by omega)).dir hkva
        have hvb := (hu.nodes b (by omega)).dir hkvb
        have hmv : (⟨s1, (n : Int)⟩ : S66) ∈ (zaf v (a : Int)).f2 := by
         rw [(hnd a).2.1]
         by_cases q : b = a
         ·subst q; rw [if_pos rfl]
          refine (delN_mem hdb.sorted hmo).2 ⟨hm0, fun q2 => hon ?_⟩
          have q2 : s1 = s2 := q2
          rw [q2] at hm0
          exact Int.ofNat.inj (same_name hdb.sorted hmo hm0)
         ·rw [if_neg q]; exact hm0
        have hrd := renD_ok (n := (n : Int)) (s1 := s1) ha hb (by omega) hv hvl hdb.len (fun _ => (bs_mem hdb.sorted hmo).1) hva.sorted hva.len hvb.len hmv
        refine ⟨_, hgo _ hrd, fun q => absurd rfl q, fun _ => ?_, fun q => by omega⟩
        refine hu.move (by omega) (by omega) hkva hkvb (by rw [(hnd b).2.2 hbo]; exact z4) hs2 hmv ?_ (fun _ => ?_) (fun q => hnu (q.sub hvl (fun j x hx => ?_) (fun m => (hnd m).1))) ht
        ·rw [(hnd b).2.1, if_pos rfl, Bool.eq_false_iff]
         intro q
         obtain ⟨z, hz⟩ := (zcd (delN_sorted hdb.sorted s2) s2).1 q
         exact ((delN_mem hdb.sorted hmo).1 hz).2 rfl
        ·rw [(hnd b).2.1, if_pos rfl, delN_len (bs_mem hdb.sorted hmo).1]
         have := hdb.len; have := (bs_mem hdb.sorted hmo).1; omega
        ·rw [(hnd j).2.1] at hx
         by_cases q : b = j
         ·subst q; rw [if_pos rfl] at hx; exact delN_sub hx
         ·rw [if_neg q] at hx; exact hx
      ·exact ⟨_, Ev.congr (fun k => by unfold renB; rw [hin, if_neg z4, if_neg zo]) (Ev.bind he (Ev.congr (fun _ => if_neg e0) (h.bad e))), fun _ => rfl, fun q => absurd q e0, fun q hkn => ⟨fun q => absurd q e0, fun _ hab => (hez.2 ⟨fun q2 => hkn q2.1, fun o eo => by omega, fun _ q2 => absurd hab q2⟩)⟩⟩
   by_cases e44 : (zbL l b s2).2 = 44
   ·obtain ⟨hkb, hs2, hat⟩ := findR_44 (show zbL l b s2 = ((zbL l b s2).1, 44) from Prod.ext rfl e44)
    obtain ⟨r, h1, h2, h3, h4⟩ := last (-1) hkb hs2 (.inl ⟨rfl, hat⟩)
    refine ⟨r, step2 r (Ev.congr (fun _ => if_pos e44) h1), h2, h3, fun a' b' n' ea eb _ _ _ _ hm' hkn' _ _ => ?_⟩
    obtain rfl : a = a' := Int.ofNat.inj ea
    obtain rfl : b = b' := Int.ofNat.inj eb
    obtain rfl : n = n' := Int.ofNat.inj (same_name hda.sorted hm0 hm')
    obtain ⟨h5, h6⟩ := h4 rfl hkn'
    exact ⟨fun q => ⟨(h5 q).1, (h5 q).2, ht⟩, fun q _ q2 => h6 q q2⟩
   ·by_cases e0 : (zbL l b s2).2 = 0
    ·obtain ⟨hkb, hs2, hmo⟩ := findR_zero h hb (show zbL l b s2 = ((zbL l b s2).1, 0) from Prod.ext rfl e0)
     obtain ⟨o, ho, ho0, hol, hok⟩ := (h.names b hb _ hmo).nat
     have ho : (zbL l b s2).1 = (o : Int) := ho
     rw [ho] at hmo
     obtain ⟨r, h1, h2, h3, h4⟩ := last (o : Int) hkb hs2 (.inr ⟨o, rfl, hol, hmo⟩)
     refine ⟨r, step2 r (Ev.congr (fun _ => by rw [if_neg e44, if_pos e0, ho]) h1), h2, h3, fun a' b' n' ea eb _ _ _ _ _ _ _ hat => ?_⟩
     obtain rfl : b = b' := Int.ofNat.inj eb
     rw [(zcd ((h.nodes b hb).dir hkb).sorted s2).2 ⟨_, hmo⟩] at hat; cases hat
    ·refine ⟨_, step2 _ (Ev.congr (fun _ => by rw [if_neg e44, if_neg e0]) (h.bad _)), fun _ => rfl, fun q => absurd q e0, fun a' b' n' ea eb _ _ _ hkb _ _ hs2 hat => ?_⟩
     obtain rfl : b = b' := Int.ofNat.inj eb
     rw [findR_no hkb hs2 hat] at e44
     exact absurd rfl e44
  ·refine ⟨_, step1 _ (Ev.congr (fun _ => if_neg e1) (h.bad _)), fun _ => rfl, fun q => absurd q e1, fun a' b' n' ea eb _ _ hka _ hm' _ _ _ => ?_⟩
   obtain rfl : a = a' := Int.ofNat.inj ea
   have hda := (h.nodes a ha).dir hka
   rw [findR_mem h ha hka (hda.ok _ hm') hm'] at e1
   exact absurd rfl e1
def Names4 (k : Nat) (w : List S45) (n dir : Int) (s s2 : ByteArray) (now : Int) : Prop :=
 zbv.f k w dir s2 = some (n, 0) ∧ ∃ x, tree_Unlink.f k w dir s false now = some (x, 0) ∧ zbv.f k x dir s2 = some (n, 0) ∧ 0 ≤ n ∧ n < (x.length : Int) ∧ (zaf x n).f4 = 1
def Names3 (k : Nat) (t u : List S45) (n dir : Int) (s s2 : ByteArray) (now : Int) : Prop :=
 zbv.f k u dir s2 = some (n, 0) ∧ (∃ j, zbv.f k u dir s = some (j, 44)) ∧ ∃ v, zb3.f k u dir s2 dir s now = some (v, 0) ∧ zbD.f k v t = some true
def Names2 (k : Nat) (t : List S45) (n dir : Int) (s s2 : ByteArray) (now : Int) : Prop :=
 zbv.f k t dir s = some (n, 0) ∧ ∃ u g wn was, zb3.f k t dir s dir s2 now = some (u, g) ∧ zbv.f k t dir s2 = some (wn, was) ∧ (g = 0 → was = 44 → Names3 k t u n dir s s2 now) ∧
  ∃ w g2, tree_Link.f k t n dir s2 now = some (w, g2) ∧ (g2 = 0 → Names4 k w n dir s s2 now)
def NamesAt (k : Nat) (l : List S45) (dir : Int) (s s2 : ByteArray) (now : Int) : Prop :=
 ∃ t n e, zbo.f k l dir s 1 ⟨#[]⟩ now = some (t, n, e) ∧ (e = 0 → Names2 k t n dir s s2 now)
theorem moveN_same (l : List S45) (d : Nat) (hd : d < l.length) (s1 s2 : ByteArray) (n now : Int) : moveN l d s1 d s2 n now = l.set d { (zaf l (d : Int)) with f2 := insN (delN (zaf l (d : Int)).f2 s1) s2 n, f5 := now } := by
 have hr := zb9 l d hd s1 now d
 rw [if_pos rfl] at hr
 unfold moveN addN
 rw [Int.toNat_natCast, hr]
 unfold za0
 rw [Int.toNat_natCast, List.set_set]
 rfl
theorem set_nd (l : List S45) (d : Nat) (hd : d < l.length) (x : S45) (hx : x = (zaf l (d : Int))) : l.set d x = l := by
 rw [hx, zbU l d hd, List.set_getElem_self]
theorem names_at {l : List S45} (h : MayP l) (dir : Int) (s s2 : ByteArray) (now : Int) : ∃ K, ∀ k, K ≤ k → NamesAt k l dir s s2 now := by
 obtain ⟨⟨t, n, e⟩, ⟨K1, h1⟩, hbad, hok⟩ := Make_ev h dir s 1 ⟨#[]⟩ now
 by_cases e0 : e = 0
 ·obtain ⟨m, d, rfl, hd, hkd, hs, h4, hb, hl, hm1, hm2, hfree, hkp, ht, hn, htt⟩ := hok e0
  have hn' : n = (m : Int) := hn
  have htt' : t = addN (zbr l (m : Int) 1 ⟨#[]⟩ now) (d : Int) s (m : Int) now := htt
  clear hn htt
  subst hn'
  have hMt : MayP t := by rw [htt']; exact h.make hd hkd h4 hs hb hl hm1 hm2 hfree hkp ht
  have hmd : m ≠ d := fun q => by subst q; have := hfree hd; omega
  have hwl := withNew_len l m hm1 1 ⟨#[]⟩ now
  have hlen : t.length = max l.length (m + 1) := by rw [htt', addN_len, hwl]
  have hrd : ∀ j : Nat, (zaf t (j : Int)) = if m = j then ⟨1, [], [], ⟨#[]⟩, 1, now⟩ else if d = j then { (zaf l (d : Int)) with f2 := insN (zaf l (d : Int)).f2 s (m : Int), f5 := now } else (zaf l (j : Int)) := fun j => by
   rw [htt', addN_nd _ _ (by omega), withNew_nd _ _ hm1, withNew_nd _ _ hm1, if_neg hmd]
   by_cases q : m = j
   ·rw [if_pos q, if_neg (by omega), if_pos q]
   ·rw [if_neg q, if_neg q]
  have hdt : d < t.length := by omega
  have hmt : m < t.length := by omega
  have hkt : (zaf t (d : Int)).f0 = 2 := by rw [hrd, if_neg hmd, if_pos rfl]; exact hkd
  have hkm : (zaf t (m : Int)).f0 = 1 := by rw [hrd, if_pos rfl]
  have h4m : (zaf t (m : Int)).f4 = 1 := by rw [hrd, if_pos rfl]
  have h4t : (zaf t (d : Int)).f4 ≠ 0 := by rw [hrd, if_neg hmd, if_pos rfl]; exact h4
  have h5t : (zaf t (d : Int)).f5 = now := by rw [hrd, if_neg hmd, if_pos rfl]
  have hmem : (⟨s, (m : Int)⟩ : S66) ∈ (zaf t (d : Int)).f2 := by rw [hrd, if_neg hmd, if_pos rfl]; exact zb1.2 (.inl rfl)
  have hdp := (hMt.nodes d hdt).dir hkt
  clear htt' hrd hwl
  obtain ⟨K2, h2⟩ := Find_ev hMt d hdt (by rw [hkt]; decide) s
  rw [findR_mem hMt hdt hkt hs hmem] at h2
  obtain ⟨K3, h3⟩ := Find_ev hMt d hdt (by rw [hkt]; decide) s2
  obtain ⟨⟨u, g⟩, ⟨K4, h4'⟩, _, hgu, hmv⟩ := Rename_ev hMt (d : Int) s (d : Int) s2 now
  obtain ⟨⟨w, g2⟩, ⟨K5, h5⟩, _, hw⟩ := Link_ev hMt (m : Int) (d : Int) s2 now
  have hT : ∃ K, ∀ k, K ≤ k → g = 0 → (zbL t d s2).2 = 44 → Names3 k t u (m : Int) (d : Int) s s2 now := by
   by_cases g0 : g = 0
   ·by_cases w44 : (zbL t d s2).2 = 44
    ·obtain ⟨_, hs2, hat⟩ := findR_44 (show zbL t d s2 = ((zbL t d s2).1, 44) from Prod.ext rfl w44)
     have hMu : MayP u := hgu g0
     have hu : u = moveN t d s d s2 (m : Int) now := ((hmv d d m rfl rfl hdt hdt hkt hkt hmem (by rw [hkm]; decide) hs2 hat).1 g0).1
     have hne : s2 ≠ s := fun q => by
      rw [q, (zcd hdp.sorted s).2 ⟨_, hmem⟩] at hat; cases hat
     have hus : u = t.set d { (zaf t (d : Int)) with f2 := insN (delN (zaf t (d : Int)).f2 s) s2 (m : Int), f5 := now } := hu.trans (moveN_same t d hdt s s2 _ now)
     have hul : u.length = t.length := by rw [hus, List.length_set]
     have hur : ∀ j : Nat, (zaf u (j : Int)) = if d = j then { (zaf t (d : Int)) with f2 := insN (delN (zaf t (d : Int)).f2 s) s2 (m : Int), f5 := now } else (zaf t (j : Int)) := fun j => by rw [hus, nd_set _ _ _ hdt]
     have hku : (zaf u (d : Int)).f0 = 2 := by rw [hur, if_pos rfl]; exact hkt
     have h2u : (zaf u (d : Int)).f2 = insN (delN (zaf t (d : Int)).f2 s) s2 (m : Int) := by rw [hur, if_pos rfl]
     have hdu := (hMu.nodes d (by omega)).dir hku
     have hmu : (⟨s2, (m : Int)⟩ : S66) ∈ (zaf u (d : Int)).f2 := by rw [h2u]; exact zb1.2 (.inl rfl)
     have hau : bsAt (zaf u (d : Int)).f2 s = false := by
      rw [Bool.eq_false_iff]
      intro q
      obtain ⟨z, hz⟩ := (zcd hdu.sorted s).1 q
      rw [h2u] at hz
      rcases zb1.1 hz with q | q
      ·injection q with q1 _; exact hne q1.symm
      ·exact ((delN_mem hdp.sorted hmem).1 q).2 rfl
     have hatd : bsAt (delN (zaf t (d : Int)).f2 s) s2 = false := by
      rw [Bool.eq_false_iff]
      intro q
      obtain ⟨z, hz⟩ := (zcd (delN_sorted hdp.sorted s) s2).1 q
      rw [(zcd hdp.sorted s2).2 ⟨z, delN_sub hz⟩] at hat; cases hat
     have hkum : (zaf u (m : Int)).f0 ≠ 2 := by rw [hur, if_neg (fun q => hmd q.symm), hkm]; decide
     have h4u : (zaf u (d : Int)).f4 ≠ 0 := by rw [hur, if_pos rfl]; exact h4t
     obtain ⟨K6, h6⟩ := Find_ev hMu d (by omega) (by rw [hku]; decide) s2
     rw [findR_mem hMu (by omega) hku hs2 hmu] at h6
     obtain ⟨K7, h7⟩ := Find_ev hMu d (by omega) (by rw [hku]; decide) s
     rw [findR_no hku hs hau] at h7
     obtain ⟨⟨v, o⟩, ⟨K8, h8⟩, _, _, hv⟩ := Rename_ev hMu (d : Int) s2 (d : Int) s now
     obtain ⟨hv1, hv2⟩ := hv d d m rfl rfl (by omega) (by omega) hku hku hmu hkum hs hau
     have ho : o = 0 := hv2 h4u ht rfl
     have hvt : v = t := by
      have h9 : v = moveN u d s2 d s (m : Int) now := (hv1 ho).1
      rw [h9, moveN_same u d (by omega), h2u, del_ins (delN_sorted hdp.sorted s) hatd, ins_del hdp.sorted hmem, hus, List.set_set]
      refine set_nd t d hdt _ ?_
      rw [nd_set _ _ _ hdt, if_pos rfl, ← h5t]
     subst ho
     rw [hvt] at h8
     obtain ⟨K9, h9⟩ := (eqTree t t (by have := hMt.len; omega) hMt.fits.n).out rfl
     exact ⟨K6 + K7 + K8 + K9, fun k hk _ _ => ⟨h6 k (by omega), ⟨_, h7 k (by omega)⟩, t, h8 k (by omega), h9 k (by omega)⟩⟩
    ·exact ⟨0, fun _ _ _ q => absurd q w44⟩
   ·exact ⟨0, fun _ _ q => absurd q g0⟩
  have hL : ∃ K, ∀ k, K ≤ k → g2 = 0 → Names4 k w (m : Int) (d : Int) s s2 now := by
   by_cases g0 : g2 = 0
   ·obtain ⟨m', d', em, ed, _, _, _, _, _, hs2, _, hat, hlt, _, hww⟩ := hw g0
    obtain rfl : m = m' := Int.ofNat.inj em
    obtain rfl : d = d' := Int.ofNat.inj ed
    have hww : w = zcm (addN t (d : Int) s2 (m : Int) now) (m : Int) 1 := hww
    have hMw : MayP w := by rw [hww]; exact hMt.link hdt hkt h4t hs2 hat hlt hmt (by rw [hkm]; decide) (by rw [hkm]; decide) ht
    have hne : s2 ≠ s := fun q => by
     rw [q, (zcd hdp.sorted s).2 ⟨_, hmem⟩] at hat; cases hat
    have hwl : w.length = t.length := by rw [hww, linksBy_len, addN_len]
    have hwr : ∀ j : Nat, (zaf w (j : Int)) = if m = j then { (zaf t (m : Int)) with f4 := wrap64 ((zaf t (m : Int)).f4 + 1) } else if d = j then { (zaf t (d : Int)) with f2 := insN (zaf t (d : Int)).f2 s2 (m : Int), f5 := now } else (zaf t (j : Int)) := fun j => by
     rw [hww, linksBy_nd _ _ (by rw [addN_len]; exact hmt), addN_nd _ _ hdt, addN_nd _ _ hdt, if_neg (show ¬ d = m from fun q => hmd q.symm)]
    have hkw : (zaf w (d : Int)).f0 = 2 := by rw [hwr, if_neg hmd, if_pos rfl]; exact hkt
    have h2w : (zaf w (d : Int)).f2 = insN (zaf t (d : Int)).f2 s2 (m : Int) := by rw [hwr, if_neg hmd, if_pos rfl]
    have hdw := (hMw.nodes d (by omega)).dir hkw
    have hm2w : (⟨s2, (m : Int)⟩ : S66) ∈ (zaf w (d : Int)).f2 := by rw [h2w]; exact zb1.2 (.inl rfl)
    have hmw : (⟨s, (m : Int)⟩ : S66) ∈ (zaf w (d : Int)).f2 := by rw [h2w]; exact zb1.2 (.inr hmem)
    have hkwm : (zaf w (m : Int)).f0 = 1 := by rw [hwr, if_pos rfl]; exact hkm
    have h4w : (zaf w (m : Int)).f4 = 2 := by
     rw [hwr, if_pos rfl]
     show wrap64 ((zaf t (m : Int)).f4 + 1) = 2
     rw [h4m]; unfold wrap64; omega
    obtain ⟨K6, h6⟩ := Find_ev hMw d (by omega) (by rw [hkw]; decide) s2
    rw [findR_mem hMw (by omega) hkw hs2 hm2w] at h6
    obtain ⟨⟨x, j⟩, ⟨K7, h7⟩, _, hx, hxo⟩ := Unlink_ev hMw (d : Int) s false now
    have hj : j = 0 := hxo m d rfl (by omega) hkw hs hmw rfl (by rw [hkwm]; decide) ht
    obtain ⟨m', d', ed, _, _, _, _, hm', hleaf, _, hxx⟩ := hx hj
    obtain rfl : d = d' := Int.ofNat.inj ed
    obtain rfl : m = m' := Int.ofNat.inj (same_name hdw.sorted hmw hm')
    have hxx : x = zba (za0 w (d : Int) s now) (m : Int) := hxx
    have hMx : MayP x := by rw [hxx]; exact hMw.unlink (by omega) hkw hmw hleaf ht
    have hxl : x.length = w.length := by rw [hxx, linksDown_len, zb4]
    have hxr : ∀ j : Nat, (zaf x (j : Int)) = if m = j then { (zaf w (m : Int)) with f4 := wrap64 ((zaf w (m : Int)).f4 - 1) } else if d = j then { (zaf w (d : Int)) with f2 := delN (zaf w (d : Int)).f2 s, f5 := now } else (zaf w (j : Int)) := fun j => by
     rw [hxx, linksDown_nd _ _ (by rw [zb4]; omega), zb9 _ _ (by omega), zb9 _ _ (by omega), if_neg (show ¬ d = m from fun q => hmd q.symm)]
    have hkx : (zaf x (d : Int)).f0 = 2 := by rw [hxr, if_neg hmd, if_pos rfl]; exact hkw
    have hmx : (⟨s2, (m : Int)⟩ : S66) ∈ (zaf x (d : Int)).f2 := by rw [hxr, if_neg hmd, if_pos rfl]; exact (delN_mem hdw.sorted hmw).2 ⟨hm2w, hne⟩
    obtain ⟨K8, h8⟩ := Find_ev hMx d (by omega) (by rw [hkx]; decide) s2
    rw [findR_mem hMx (by omega) hkx hs2 hmx] at h8
    subst hj
    exact ⟨K6 + K7 + K8, fun k hk _ => ⟨h6 k (by omega), x, h7 k (by omega), h8 k (by omega), by omega, by omega, by
     rw [hxr, if_pos rfl]
     show wrap64 ((zaf w (m : Int)).f4 - 1) = 1
     rw [h4w]; unfold wrap64; omega⟩⟩
   ·exact ⟨0, fun _ _ q => absurd q g0⟩
  obtain ⟨K6, h6⟩ := hT
  obtain ⟨K7, h7⟩ := hL
  exact ⟨K1 + K2 + K3 + K4 + K5 + K6 + K7, fun k hk => ⟨t, (m : Int), e, h1 k (by omega), fun _ => ⟨h2 k (by omega), u, g, _, _, h4' k (by omega), h3 k (by omega), fun q1 q2 => h6 k (by omega) q1 q2, w, g2, h5 k (by omega), fun q => h7 k (by omega) q⟩⟩⟩
 ·exact ⟨K1, fun k hk => ⟨t, n, e, h1 k hk, fun q => absurd q e0⟩⟩
end Go.Proofs.Ytjghephnjkffcaa.PCk
