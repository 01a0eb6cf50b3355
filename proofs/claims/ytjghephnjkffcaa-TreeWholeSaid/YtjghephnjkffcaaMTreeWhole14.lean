/- Parts of one proof, merged by a program of this repo: walks over the given program and plain facts. -/
import Derived.Test.YtjghephnjkffcaaMTreeWhole11
import Derived.Test.YtjghephnjkffcaaMTreeWhole4
import Derived.Test.YtjghephnjkffcaaMTreeWhole9
import Derived.Test.YtjghephnjkffcaaMTreeWhole5
import Derived.Test.YtjghephnjkffcaaMTreeWhole10
import Derived.Test.YtjghephnjkffcaaMTreeWhole8
import Derived.Test.YtjghephnjkffcaaMTreeWhole12
import Derived.Test.YtjghephnjkffcaaMTreeWhole6
import Derived.WalkSpells
import Derived.Test.YtjghephnjkffcaaMTreeWhole2
namespace Go.Proofs.Ytjghephnjkffcaa.PCk
open Go.RowKit Go.Proofs.YtjghephnjkffcaaW.PrintWords Go.Proofs.YtjghephnjkffcaaW.PrintLast Go.Proofs.YtjghephnjkffcaaW.PrintMore
attribute [local go_sem] zbV zbT zci zch zbG zbF zbU zbS
set_option linter.unusedVariables false
set_option linter.unusedSimpArgs false
theorem nd_set (l : List S45) (n : Nat) (x : S45) (hn : n < l.length) (j : Nat) : (zae (l.set n x) (j : Int)) = if n = j then x else (zae l (j : Int)) := by
 show (l.set n x).getD (j : Int).toNat _ = if n = j then _ else l.getD (j : Int).toNat _
 rw [Int.toNat_natCast, List.getD_eq_getElem?_getD, List.getD_eq_getElem?_getD, List.getElem?_set]
 by_cases e : n = j
 ·subst e; simp [hn]
 ·rw [if_neg e, if_neg e]
theorem cnt_set (l : List S45) : ∀ (n : Nat) (x : S45) (hn : n < l.length) (i : Nat), cnt (l.set n x) i + cntN (zae l (n : Int)).f2 i = cnt l i + cntN x.f2 i := by
 induction l with
 | nil => intro n x hn; exact absurd hn (Nat.not_lt_zero _)
 | cons a l ih =>
  intro n x hn i
  cases n with
  | zero =>
   rw [zb0 _ _ hn]
   unfold cnt
   rw [List.set_cons_zero, List.map_cons, List.map_cons, List.sum_cons, List.sum_cons]
   show _ + cntN a.f2 i = _
   omega
  | succ n =>
   have h1 := ih n x (by simpa using hn) i
   rw [zb0 _ _ hn]
   rw [zb0 _ _ (by simpa using hn)] at h1
   unfold cnt at h1 ⊢
   rw [List.set_cons_succ, List.map_cons, List.map_cons, List.sum_cons, List.sum_cons, List.getElem_cons_succ]
   omega
theorem cnt_zero {l : List S45} {i : Nat} : cnt l i = 0 ↔ ∀ j, j < l.length → ∀ x ∈ (zae l (j : Int)).f2, x.f1 ≠ (i : Int) := by
 unfold cnt
 rw [List.sum_eq_zero_iff_forall_eq_nat]
 constructor
 ·intro h j hj x hx e
  rw [zb0 l j hj] at hx
  have h1 := h _ (List.mem_map.2 ⟨_, List.getElem_mem hj, rfl⟩)
  have h2 := cntN_pos.2 ⟨x, hx, e⟩
  omega
 ·intro h c hc
  obtain ⟨x, hx, rfl⟩ := List.mem_map.1 hc
  obtain ⟨j, hj, rfl⟩ := List.getElem_of_mem hx
  by_cases q : cntN l[j].f2 i = 0
  ·exact q
  ·obtain ⟨y, hy, e⟩ := cntN_pos.1 (Nat.pos_of_ne_zero q)
   exact absurd e (h j hj y (by rw [zb0 l j hj]; exact hy))
theorem cnt_le (l : List S45) (i : Nat) (h : ∀ j, j < l.length → (zae l (j : Int)).f2.length ≤ 64) : cnt l i ≤ 64 * l.length := by
 have key : ∀ l : List S45, (∀ x ∈ l, x.f2.length ≤ 64) → cnt l i ≤ 64 * l.length := by
  intro l
  induction l with
  | nil => intro _; exact Nat.le_refl _
  | cons a l ih =>
   intro h
   have h1 := ih (fun x hx => h x (List.mem_cons_of_mem _ hx))
   have h2 : cntN a.f2 i ≤ 64 := Nat.le_trans (List.countP_le_length ..) (h a (List.mem_cons_self ..))
   unfold cnt at h1 ⊢
   rw [List.map_cons, List.sum_cons, List.length_cons]; omega
 exact key l fun x hx => by
  obtain ⟨j, hj, rfl⟩ := List.getElem_of_mem hx
  rw [← zb0 l j hj]; exact h j hj
theorem nameP_size {s : ByteArray} (h : zbY s = 0) : s.size ≤ 64 := by
 unfold zbY at h
 split at h
 ·cases h
 ·split at h
  ·cases h
  ·omega
theorem nodeP_fits {x : S45} (h : zb9 x) : FitsX x := by
 rcases h with h | h | h | h
 ·rw [h.2]; exact ⟨⟨by decide, by decide⟩, fun z hz => (by cases hz), by decide⟩
 ·obtain ⟨_, _, h1, h2, h3⟩ := h
  refine ⟨⟨by omega, by rw [h2]; decide⟩, fun z hz => (by rw [h2] at hz; cases hz), by rw [h3]; decide⟩
 ·obtain ⟨_, _, h1, h2, h3, h4⟩ := h
  refine ⟨⟨by rw [h3]; decide, by omega⟩, fun z hz => ?_, by rw [h4]; decide⟩
  have := nameP_size (((okR_iff _).1 h2).1 z hz)
  omega
 ·obtain ⟨_, _, _, h1, _, h2, h3⟩ := h
  refine ⟨⟨by rw [h2]; decide, by rw [h3]; decide⟩, fun z hz => (by rw [h3] at hz; cases hz), by omega⟩
theorem MayP.fits {l : List S45} (h : MayP l) : Fits l := fun x hx => by
 obtain ⟨j, hj, rfl⟩ := List.getElem_of_mem hx
 have := nodeP_fits (h.nodes j hj)
 rwa [zb0 l j hj] at this
theorem MayP.ev {l : List S45} (h : MayP l) : Ev (fun k => zaG.f k l) true := may_of h.fits h
structure DirP (x : S45) : Prop where
 time : zct x.f5
 len : x.f2.length ≤ 64
 ok : ∀ y ∈ x.f2, zbY y.f0 = 0
 sorted : Sorted x.f2
 data : x.f1 = []
 target : x.f3 = ⟨#[]⟩
theorem zb9.dir {x : S45} (h : zb9 x) (hk : x.f0 = 2) : DirP x := by
 rcases h with h | h | h | h
 ·have := h.1; omega
 ·have := h.1; omega
 ·obtain ⟨_, h1, h2, h3, h4, h5⟩ := h
  have := (okR_iff _).1 h3
  exact ⟨h1, h2, this.1, this.2, h4, h5⟩
 ·have := h.1; omega
theorem DirP.node {x : S45} (h : DirP x) (hk : x.f0 = 2) : zb9 x := .inr (.inr (.inl ⟨hk, h.time, h.len, (okR_iff _).2 ⟨h.ok, h.sorted⟩, h.data, h.target⟩))
theorem zb9.leaf {x : S45} (h : zb9 x) (hk : x.f0 ≠ 2) : x.f2 = [] := by
 rcases h with h | h | h | h
 ·rw [h.2]; rfl
 ·exact h.2.2.2.1
 ·exact absurd h.1 hk
 ·exact h.2.2.2.2.2.2
theorem MayP.cnt_small {l : List S45} (h : MayP l) (i : Nat) : cnt l i ≤ 4096 := by
 have h1 := cnt_le l i (fun j hj => nodeP_names (h.nodes j hj))
 have := h.len
 omega
theorem zbN.nat {l : List S45} {x : S66} (h : zbN l x) : ∃ m : Nat, x.f1 = (m : Int) ∧ 0 < m ∧ m < l.length ∧ (zae l (m : Int)).f0 ≠ 0 := by
 obtain ⟨h1, h2, h3⟩ := h
 refine ⟨x.f1.toNat, by omega, by omega, by omega, ?_⟩
 rw [show ((x.f1.toNat : Nat) : Int) = x.f1 by omega]; exact h3
theorem nameIn_of {l : List S45} {x : S66} {m : Nat} (e : x.f1 = (m : Int)) (h0 : 0 < m) (h1 : m < l.length) (h2 : (zae l (m : Int)).f0 ≠ 0) : zbN l x := ⟨by omega, by omega, by rw [e]; exact h2⟩
theorem Reach.keep {l l' : List S45} (n : Nat) (hleaf : (zae l (n : Int)).f2 = []) (hlen : l.length ≤ l'.length) (hN : ∀ j, j < l.length → ∀ x ∈ (zae l (j : Int)).f2, zbN l x) (h : ∀ j, j < l.length → ∀ x ∈ (zae l (j : Int)).f2, ∀ m : Nat, x.f1 = (m : Int) → (zae l (m : Int)).f0 = 2 → m ≠ n → (∃ y ∈ (zae l' (j : Int)).f2, y.f1 = x.f1) ∧ (zae l' (m : Int)).f0 = 2) {i : Nat} (hr : Reach l i) : i ≠ n → Reach l' i := by
 induction hr with
 | root => intro _; exact .root
 | @step j x hj hjl hx hd ih =>
  intro hne
  have hjn : j ≠ n := fun e => by subst e; rw [hleaf] at hx; cases hx
  obtain ⟨m, hm, _, _, _⟩ := (hN j hjl x hx).nat
  have hmn : m ≠ n := by rw [hm, Int.toNat_natCast] at hne; exact hne
  rw [hm] at hd
  obtain ⟨⟨y, hy, e⟩, hk⟩ := h j hjl x hx m hm hd hmn
  have := Reach.step (ih hjn) (Nat.lt_of_lt_of_le hjl hlen) hy (by rw [e, hm]; exact hk)
  rwa [e] at this
theorem MayP.edit {l l' : List S45} (h : MayP l) (hlen : l'.length = l.length) (hk : ∀ j, j < l.length → (zae l' (j : Int)).f0 = (zae l (j : Int)).f0) (h0 : (zae l' (((0 : Nat)) : Int)).f4 = 1) (hN : ∀ j, j < l.length → zb9 (zae l' (j : Int))) (hn : ∀ j, j < l.length → ∀ x ∈ (zae l' (j : Int)).f2, zbN l x) (hL : ∀ i : Nat, 0 < i → i < l.length → (zae l' (i : Int)).f4 = (cnt l' i : Int))
  (hD : ∀ i : Nat, 0 < i → i < l.length → (zae l (i : Int)).f0 = 2 → (zae l' (i : Int)).f4 ≤ 1 ∧ ((zae l' (i : Int)).f4 = 0 → (zae l' (i : Int)).f2 = []) ∧ ((zae l' (i : Int)).f4 = 1 → Reach l' i)) : MayP l' where
 pos := by rw [hlen]; exact h.pos
 len := by rw [hlen]; exact h.len
 last := fun h1 => by
  rw [hlen] at h1 ⊢
  have := h.last h1
  rw [show (l.length : Int) - 1 = ((l.length - 1 : Nat) : Int) by omega] at this ⊢
  rw [hk _ (by omega)]; exact this
 k0 := by rw [hk 0 h.pos]; exact h.k0
 l0 := h0
 nodes := fun j hj => hN j (by omega)
 names := fun j hj x hx => by
  obtain ⟨m, hm, h1, h2, h3⟩ := (hn j (by omega) x hx).nat
  exact nameIn_of hm h1 (by omega) (by rw [hk m h2]; exact h3)
 links := fun i h1 h2 => hL i h1 (by omega)
 dirs := fun i h1 h2 h3 => hD i h1 (by omega) (by rw [← hk i (by omega)]; exact h3)
theorem MayP.reach {l : List S45} (h : MayP l) {d : Nat} (hd : d < l.length) (hk : (zae l (d : Int)).f0 = 2) (h4 : (zae l (d : Int)).f4 ≠ 0) : Reach l d := by
 by_cases e : d = 0
 ·subst e; exact .root
 ·have h1 := h.dirs d (by omega) hd hk
  have h2 := h.links d (by omega) hd
  exact h1.2.2 (by omega)
theorem addN_nd (l : List S45) (d : Nat) (hd : d < l.length) (s : ByteArray) (n now : Int) (j : Nat) : (zae (addN l (d : Int) s n now) (j : Int)) = if d = j then { (zae l (d : Int)) with f2 := insN (zae l (d : Int)).f2 s n, f5 := now } else (zae l (j : Int)) := by
 unfold addN; rw [Int.toNat_natCast, nd_set _ _ _ hd]; rfl
theorem addN_cnt (l : List S45) (d : Nat) (hd : d < l.length) (s : ByteArray) (n now : Int) (i : Nat) : cnt (addN l (d : Int) s n now) i = cnt l i + if n = (i : Int) then 1 else 0 := by
 have h : cnt (l.set d { (zae l (d : Int)) with f2 := insN (zae l (d : Int)).f2 s n, f5 := now }) i + cntN (zae l (d : Int)).f2 i = cnt l i + cntN (insN (zae l (d : Int)).f2 s n) i := cnt_set l d { (zae l (d : Int)) with f2 := insN (zae l (d : Int)).f2 s n, f5 := now } hd i
 have h2 := cntN_ins (zae l (d : Int)).f2 s n i
 have e : addN l (d : Int) s n now = l.set d { (zae l (d : Int)) with f2 := insN (zae l (d : Int)).f2 s n, f5 := now } := by unfold addN; rw [Int.toNat_natCast]; rfl
 rw [e]
 omega
theorem removeN_nd (l : List S45) (d : Nat) (hd : d < l.length) (s : ByteArray) (now : Int) (j : Nat) : (zae (za3 l (d : Int) s now) (j : Int)) = if d = j then { (zae l (d : Int)) with f2 := delN (zae l (d : Int)).f2 s, f5 := now } else (zae l (j : Int)) := by
 unfold za3; rw [Int.toNat_natCast, nd_set _ _ _ hd]; rfl
theorem removeN_cnt (l : List S45) (d : Nat) (hd : d < l.length) (s : ByteArray) (n now : Int) (hs : Sorted (zae l (d : Int)).f2) (hm : (⟨s, n⟩ : S66) ∈ (zae l (d : Int)).f2) (i : Nat) : cnt (za3 l (d : Int) s now) i + (if n = (i : Int) then 1 else 0) = cnt l i := by
 have h : cnt (l.set d { (zae l (d : Int)) with f2 := delN (zae l (d : Int)).f2 s, f5 := now }) i + cntN (zae l (d : Int)).f2 i = cnt l i + cntN (delN (zae l (d : Int)).f2 s) i := cnt_set l d { (zae l (d : Int)) with f2 := delN (zae l (d : Int)).f2 s, f5 := now } hd i
 have h2 := cntN_del hs hm i
 have e : za3 l (d : Int) s now = l.set d { (zae l (d : Int)) with f2 := delN (zae l (d : Int)).f2 s, f5 := now } := by unfold za3; rw [Int.toNat_natCast]; rfl
 rw [e]
 omega
theorem links_cnt (u : List S45) (n : Nat) (hn : n < u.length) (v : Int) (i : Nat) : cnt (u.set n { (zae u (n : Int)) with f4 := v }) i = cnt u i := by
 have h : cnt (u.set n { (zae u (n : Int)) with f4 := v }) i + cntN (zae u (n : Int)).f2 i = cnt u i + cntN (zae u (n : Int)).f2 i := cnt_set u n { (zae u (n : Int)) with f4 := v } hn i
 omega
theorem linksBy_nd (u : List S45) (n : Nat) (hn : n < u.length) (d : Int) (j : Nat) : (zae (linksBy u (n : Int) d) (j : Int)) = if n = j then { (zae u (n : Int)) with f4 := wrap64 ((zae u (n : Int)).f4 + d) } else (zae u (j : Int)) := by
 unfold linksBy; rw [Int.toNat_natCast, nd_set _ _ _ hn]
theorem linksBy_cnt (u : List S45) (n : Nat) (hn : n < u.length) (d : Int) (i : Nat) : cnt (linksBy u (n : Int) d) i = cnt u i := by
 unfold linksBy; rw [Int.toNat_natCast]; exact links_cnt u n hn _ i
theorem linksDown_nd (u : List S45) (n : Nat) (hn : n < u.length) (j : Nat) : (zae (zbh u (n : Int)) (j : Int)) = if n = j then { (zae u (n : Int)) with f4 := wrap64 ((zae u (n : Int)).f4 - 1) } else (zae u (j : Int)) := by
 unfold zbh; rw [Int.toNat_natCast, nd_set _ _ _ hn]
theorem linksDown_cnt (u : List S45) (n : Nat) (hn : n < u.length) (i : Nat) : cnt (zbh u (n : Int)) i = cnt u i := by
 unfold zbh; rw [Int.toNat_natCast]; exact links_cnt u n hn _ i
theorem linksBy_len (u : List S45) (n : Int) (d : Int) : (linksBy u n d).length = u.length := List.length_set
theorem linksDown_len (u : List S45) (n : Int) : (zbh u n).length = u.length := List.length_set
theorem DirP.ins {x : S45} (h : DirP x) {s : ByteArray} (hs : zbY s = 0) (hb : bsAt x.f2 s = false) (hl : x.f2.length < 64) (n now : Int) (ht : zct now) : DirP { x with f2 := insN x.f2 s n, f5 := now } :=
 ⟨ht, by show (insN x.f2 s n).length ≤ 64; rw [insN_len]; omega, fun y hy => by
  rcases insN_mem.1 hy with rfl | hy
  ·exact hs
  ·exact h.ok y hy, insN_sorted h.sorted hb n, h.data, h.target⟩
theorem DirP.del {x : S45} (h : DirP x) (s : ByteArray) (now : Int) (ht : zct now) : DirP { x with f2 := delN x.f2 s, f5 := now } :=
 ⟨ht, by have : (delN x.f2 s).length ≤ x.f2.length := (List.eraseIdx_sublist _ _).length_le; have := h.len; show (delN x.f2 s).length ≤ 64; omega, fun y hy => h.ok y (delN_sub hy), delN_sorted h.sorted s, h.data, h.target⟩
theorem zb9.links {x : S45} (h : zb9 x) (hk : x.f0 ≠ 0) (v : Int) : zb9 { x with f4 := v } := by
 rcases h with h | h | h | h
 ·exact absurd h.1 hk
 ·exact .inr (.inl h)
 ·exact .inr (.inr (.inl h))
 ·exact .inr (.inr (.inr h))
theorem MayP.link {l : List S45} (h : MayP l) {d : Nat} (hd : d < l.length) (hk : (zae l (d : Int)).f0 = 2) (h4 : (zae l (d : Int)).f4 ≠ 0) {s : ByteArray} (hs : zbY s = 0) (hb : bsAt (zae l (d : Int)).f2 s = false) (hl : (zae l (d : Int)).f2.length < 64) {n : Nat} (hn : n < l.length) (hk0 : (zae l (n : Int)).f0 ≠ 0) (hk2 : (zae l (n : Int)).f0 ≠ 2) {now : Int} (ht : zct now) : MayP (linksBy (addN l (d : Int) s (n : Int) now) (n : Int) 1) := by
 have hnd : d ≠ n := fun e => by subst e; exact hk2 hk
 have hn0 : 0 < n := Nat.pos_of_ne_zero fun e => by subst e; exact hk2 h.k0
 have hla : (addN l (d : Int) s (n : Int) now).length = l.length := addN_len ..
 have hrd : ∀ j : Nat, (zae (linksBy (addN l (d : Int) s (n : Int) now) (n : Int) 1) (j : Int)) = if n = j then { (zae l (n : Int)) with f4 := (zae l (n : Int)).f4 + 1 } else if d = j then { (zae l (d : Int)) with f2 := insN (zae l (d : Int)).f2 s (n : Int), f5 := now } else (zae l (j : Int)) := fun j => by
  rw [linksBy_nd _ _ (by omega), addN_nd _ _ hd, addN_nd _ _ hd, if_neg hnd]
  have h1 := h.links n hn0 hn
  have h2 := h.cnt_small n
  rw [show wrap64 ((zae l (n : Int)).f4 + 1) = (zae l (n : Int)).f4 + 1 by rw [h1]; unfold wrap64; omega]
 have hc : ∀ i, cnt (linksBy (addN l (d : Int) s (n : Int) now) (n : Int) 1) i = cnt l i + if n = i then 1 else 0 := fun i => by
  rw [linksBy_cnt _ _ (by omega), addN_cnt _ _ hd]
  by_cases e : n = i
  ·rw [if_pos (by omega), if_pos e]
  ·rw [if_neg (by omega), if_neg e]
 have hlen : (linksBy (addN l (d : Int) s (n : Int) now) (n : Int) 1).length = l.length := by rw [linksBy_len, hla]
 generalize linksBy (addN l (d : Int) s (n : Int) now) (n : Int) 1 = l' at *
 have hkk : ∀ j : Nat, (zae l' (j : Int)).f0 = (zae l (j : Int)).f0 := fun j => by
  rw [hrd]
  by_cases e : n = j
  ·subst e; rw [if_pos rfl]
  ·rw [if_neg e]
   by_cases e2 : d = j
   ·subst e2; rw [if_pos rfl]
   ·rw [if_neg e2]
 have hsub : ∀ j : Nat, ∀ x ∈ (zae l (j : Int)).f2, x ∈ (zae l' (j : Int)).f2 := fun j x hx => by
  rw [hrd]
  by_cases e : n = j
  ·subst e; rw [if_pos rfl]; exact hx
  ·rw [if_neg e]
   by_cases e2 : d = j
   ·subst e2; rw [if_pos rfl]; exact insN_mem.2 (.inr hx)
   ·rw [if_neg e2]; exact hx
 refine h.edit hlen (fun j _ => hkk j) ?_ (fun j hj => ?_) (fun j hj x hx => ?_) (fun i h0 hi => ?_) (fun i h0 hi hki => ?_)
 ·rw [hrd, if_neg (by omega)]
  by_cases e2 : d = 0
  ·subst e2; rw [if_pos rfl]; exact h.l0
  ·rw [if_neg e2]; exact h.l0
 ·rw [hrd]
  by_cases e : n = j
  ·subst e; rw [if_pos rfl]; exact (h.nodes n hn).links hk0 _
  ·rw [if_neg e]
   by_cases e2 : d = j
   ·subst e2; rw [if_pos rfl]; exact (((h.nodes d hd).dir hk).ins hs hb hl _ _ ht).node hk
   ·rw [if_neg e2]; exact h.nodes j hj
 ·rw [hrd] at hx
  by_cases e : n = j
  ·subst e; rw [if_pos rfl] at hx; exact h.names n hn x hx
  ·rw [if_neg e] at hx
   by_cases e2 : d = j
   ·subst e2; rw [if_pos rfl] at hx
    rcases insN_mem.1 hx with rfl | hx
    ·exact nameIn_of rfl hn0 hn hk0
    ·exact h.names d hd x hx
   ·rw [if_neg e2] at hx; exact h.names j hj x hx
 ·rw [hrd, hc]
  by_cases e : n = i
  ·subst e; rw [if_pos rfl, if_pos rfl]
   have := h.links n hn0 hn
   show (zae l (n : Int)).f4 + 1 = _
   omega
  ·rw [if_neg e, if_neg e]
   have := h.links i h0 hi
   by_cases e2 : d = i
   ·subst e2; rw [if_pos rfl]; show (zae l (d : Int)).f4 = _; omega
   ·rw [if_neg e2]; omega
 ·have hin : n ≠ i := fun e => by subst e; exact hk2 hki
  have hD := h.dirs i h0 hi hki
  have hr : Reach l i → Reach l' i := fun hr => Reach.keep n ((h.nodes n hn).leaf hk2) (by omega) h.names (fun j hj x hx m hm hkm _ => ⟨⟨x, hsub j x hx, rfl⟩, by rw [hkk]; exact hkm⟩) hr (fun e => hin e.symm)
  rw [hrd, if_neg hin]
  by_cases e2 : d = i
  ·subst e2; rw [if_pos rfl]
   exact ⟨hD.1, fun q => absurd q h4, fun q => hr (hD.2.2 q)⟩
  ·rw [if_neg e2]
   exact ⟨hD.1, hD.2.1, fun q => hr (hD.2.2 q)⟩
theorem MayP.unlink {l : List S45} (h : MayP l) {d : Nat} (hd : d < l.length) (hk : (zae l (d : Int)).f0 = 2) {s : ByteArray} {n : Nat} (hm : (⟨s, (n : Int)⟩ : S66) ∈ (zae l (d : Int)).f2) (hleaf : (zae l (n : Int)).f2 = []) {now : Int} (ht : zct now) : MayP (zbh (za3 l (d : Int) s now) (n : Int)) := by
 have hnd : d ≠ n := fun e => by subst e; rw [hleaf] at hm; cases hm
 obtain ⟨n', hn', hn0, hn, hk0⟩ := (h.names d hd _ hm).nat
 obtain rfl : n = n' := Int.ofNat.inj hn'
 have hla : (za3 l (d : Int) s now).length = l.length := removeN_len ..
 have hdp := (h.nodes d hd).dir hk
 have hcn := removeN_cnt l d hd s (n : Int) now hdp.sorted hm
 have hrd : ∀ j : Nat, (zae (zbh (za3 l (d : Int) s now) (n : Int)) (j : Int)) = if n = j then { (zae l (n : Int)) with f4 := (zae l (n : Int)).f4 - 1 } else if d = j then { (zae l (d : Int)) with f2 := delN (zae l (d : Int)).f2 s, f5 := now } else (zae l (j : Int)) := fun j => by
  rw [linksDown_nd _ _ (by omega), removeN_nd _ _ hd, removeN_nd _ _ hd, if_neg hnd]
  have h1 := h.links n hn0 hn
  have h2 := h.cnt_small n
  rw [show wrap64 ((zae l (n : Int)).f4 - 1) = (zae l (n : Int)).f4 - 1 by rw [h1]; unfold wrap64; omega]
 have hc : ∀ i, cnt (zbh (za3 l (d : Int) s now) (n : Int)) i + (if n = i then 1 else 0) = cnt l i := fun i => by
  rw [linksDown_cnt _ _ (by omega), ← hcn i]
  by_cases e : n = i
  ·rw [if_pos e, if_pos (show (n : Int) = (i : Int) by omega)]
  ·rw [if_neg e, if_neg (show ¬ (n : Int) = (i : Int) by omega)]
 have hlen : (zbh (za3 l (d : Int) s now) (n : Int)).length = l.length := by rw [linksDown_len, hla]
 generalize zbh (za3 l (d : Int) s now) (n : Int) = l' at *
 have hkk : ∀ j : Nat, (zae l' (j : Int)).f0 = (zae l (j : Int)).f0 := fun j => by
  rw [hrd]
  by_cases e : n = j
  ·subst e; rw [if_pos rfl]
  ·rw [if_neg e]
   by_cases e2 : d = j
   ·subst e2; rw [if_pos rfl]
   ·rw [if_neg e2]
 have hsub : ∀ j, j < l.length → ∀ x ∈ (zae l (j : Int)).f2, x.f1 ≠ (n : Int) → x ∈ (zae l' (j : Int)).f2 := fun j hj x hx hne => by
  rw [hrd]
  by_cases e : n = j
  ·subst e; rw [if_pos rfl]; exact hx
  ·rw [if_neg e]
   by_cases e2 : d = j
   ·subst e2; rw [if_pos rfl]
    refine (delN_mem hdp.sorted hm).2 ⟨hx, fun es => hne ?_⟩
    have h1 := (bs_mem hdp.sorted hm).2
    have h2 := (bs_mem (n := x.f1) hdp.sorted (show (⟨s, x.f1⟩ : S66) ∈ (zae l (d : Int)).f2 by rw [← es]; exact hx)).2
    rw [h1] at h2
    injection h2 with _ h3
    exact h3.symm
   ·rw [if_neg e2]; exact hx
 have hc1 : 0 < cnt l n := Nat.pos_of_ne_zero fun q => cnt_zero.1 q d hd _ hm rfl
 refine h.edit hlen (fun j _ => hkk j) ?_ (fun j hj => ?_) (fun j hj x hx => ?_) (fun i h0 hi => ?_) (fun i h0 hi hki => ?_)
 ·rw [hrd, if_neg (by omega)]
  by_cases e2 : d = 0
  ·subst e2; rw [if_pos rfl]; exact h.l0
  ·rw [if_neg e2]; exact h.l0
 ·rw [hrd]
  by_cases e : n = j
  ·subst e; rw [if_pos rfl]; exact (h.nodes n hn).links hk0 _
  ·rw [if_neg e]
   by_cases e2 : d = j
   ·subst e2; rw [if_pos rfl]; exact (hdp.del s _ ht).node hk
   ·rw [if_neg e2]; exact h.nodes j hj
 ·rw [hrd] at hx
  by_cases e : n = j
  ·subst e; rw [if_pos rfl] at hx; exact h.names n hn x hx
  ·rw [if_neg e] at hx
   by_cases e2 : d = j
   ·subst e2; rw [if_pos rfl] at hx
    exact h.names d hd x (delN_sub hx)
   ·rw [if_neg e2] at hx; exact h.names j hj x hx
 ·have hci := hc i
  rw [hrd]
  by_cases e : n = i
  ·subst e; rw [if_pos rfl]
   rw [if_pos rfl] at hci
   have := h.links n hn0 hn
   show (zae l (n : Int)).f4 - 1 = _
   omega
  ·rw [if_neg e]
   rw [if_neg e] at hci
   have := h.links i h0 hi
   by_cases e2 : d = i
   ·subst e2; rw [if_pos rfl]; show (zae l (d : Int)).f4 = _; omega
   ·rw [if_neg e2]; omega
 ·have hD := h.dirs i h0 hi hki
  by_cases hin : n = i
  ·subst hin
   rw [hrd, if_pos rfl]
   have := h.links n hn0 hn
   have h1 : (zae l (n : Int)).f4 = 1 := by have := hD.1; omega
   refine ⟨?_, fun _ => hleaf, fun q => ?_⟩
   ·show (zae l (n : Int)).f4 - 1 ≤ 1; omega
   ·have q : (zae l (n : Int)).f4 - 1 = 1 := q
    omega
  ·have hr : Reach l i → Reach l' i := fun hr => Reach.keep n hleaf (by omega) h.names (fun j hj x hx m hm2 hkm hmn => ⟨⟨x, hsub j hj x hx (by omega), rfl⟩, by rw [hkk]; exact hkm⟩) hr (fun e => hin e.symm)
   rw [hrd, if_neg hin]
   by_cases e2 : d = i
   ·subst e2; rw [if_pos rfl]
    exact ⟨hD.1, fun q => (by have := hD.2.1 q; rw [this] at hm; cases hm), fun q => hr (hD.2.2 q)⟩
   ·rw [if_neg e2]
    exact ⟨hD.1, hD.2.1, fun q => hr (hD.2.2 q)⟩
theorem withNew_nd (l : List S45) (n : Nat) (hn : n ≤ l.length) (kind : Int) (target : ByteArray) (now : Int) (j : Nat) : (zae (zbH l (n : Int) kind target now) (j : Int)) = if n = j then ⟨kind, [], [], target, 1, now⟩ else (zae l (j : Int)) := by
 unfold zbH
 rw [Int.toNat_natCast]
 by_cases e : n = l.length
 ·rw [if_pos (by omega), nd_set _ _ _ (by simp; omega)]
  by_cases e2 : n = j
  ·rw [if_pos e2, if_pos e2]
  ·rw [if_neg e2, if_neg e2]
   show (l ++ [z45]).getD (j : Int).toNat _ = l.getD (j : Int).toNat _
   rw [Int.toNat_natCast, List.getD_eq_getElem?_getD, List.getD_eq_getElem?_getD]
   by_cases e3 : j < l.length
   ·rw [List.getElem?_append_left e3]
   ·rw [List.getElem?_eq_none (by simp; omega), List.getElem?_eq_none (by omega)]
 ·rw [if_neg (by omega), nd_set _ _ _ (by omega)]
theorem withNew_len (l : List S45) (n : Nat) (hn : n ≤ l.length) (kind : Int) (target : ByteArray) (now : Int) : (zbH l (n : Int) kind target now).length = max l.length (n + 1) := by
 unfold zbH
 by_cases e : n = l.length
 ·rw [if_pos (by omega), List.length_set, List.length_append, List.length_singleton]; omega
 ·rw [if_neg (by omega), List.length_set]; omega
theorem withNew_cnt (l : List S45) (n : Nat) (hn : n ≤ l.length) (hz : n < l.length → (zae l (n : Int)).f2 = []) (kind : Int) (target : ByteArray) (now : Int) (i : Nat) : cnt (zbH l (n : Int) kind target now) i = cnt l i := by
 have hap : cnt (l ++ [z45]) i = cnt l i := by
  unfold cnt; rw [List.map_append, List.sum_append]; rfl
 unfold zbH
 rw [Int.toNat_natCast]
 by_cases e : n = l.length
 ·rw [if_pos (by omega)]
  have h := cnt_set (l ++ [z45]) n ⟨kind, [], [], target, 1, now⟩ (by simp; omega) i
  have h2 : (zae (l ++ [z45]) (n : Int)).f2 = [] := by
   rw [zb0 _ _ (by simp; omega)]
   have : ∀ (h : n < (l ++ [z45]).length), (l ++ [z45])[n] = z45 := fun h => by subst e; rw [List.getElem_append_right (Nat.le_refl _)]; simp
   rw [this]; rfl
  rw [h2, hap] at h
  exact h
 ·rw [if_neg (by omega)]
  have h := cnt_set l n ⟨kind, [], [], target, 1, now⟩ (by omega) i
  rw [hz (by omega)] at h
  exact h
def KindP (kind : Int) (target : ByteArray) : Prop := (kind = 1 ∧ target = ⟨#[]⟩) ∨ (kind = 2 ∧ target = ⟨#[]⟩) ∨ (kind = 3 ∧ target ≠ ⟨#[]⟩ ∧ target.size ≤ 512 ∧ (0 : UInt8) ∉ bytesOf target)
theorem KindP.node {kind : Int} {target : ByteArray} (h : KindP kind target) {now : Int} (ht : zct now) : zb9 ⟨kind, [], [], target, 1, now⟩ := by
 rcases h with ⟨h, h1⟩ | ⟨h, h1⟩ | ⟨h, h1, h2, h3⟩
 ·exact .inr (.inl ⟨h, ht, Nat.zero_le _, rfl, h1⟩)
 ·exact .inr (.inr (.inl ⟨h, ht, Nat.zero_le _, fun i hi => absurd hi (Nat.not_lt_zero _), rfl, h1⟩))
 ·exact .inr (.inr (.inr ⟨h, ht, h1, h2, h3, rfl, rfl⟩))
theorem KindP.ne {kind : Int} {target : ByteArray} (h : KindP kind target) : kind ≠ 0 := by
 rcases h with ⟨h, _⟩ | ⟨h, _⟩ | ⟨h, _⟩ <;> omega
theorem MayP.free_names {l : List S45} (h : MayP l) {n : Nat} (hfree : n < l.length → (zae l (n : Int)).f0 = 0) : ∀ j, j < l.length → ∀ x ∈ (zae l (j : Int)).f2, x.f1 ≠ (n : Int) := fun j hj x hx e => by
 obtain ⟨m, hm, h1, h2, h3⟩ := (h.names j hj x hx).nat
 obtain rfl : n = m := by omega
 exact h3 (hfree h2)
theorem MayP.make {l : List S45} (h : MayP l) {d : Nat} (hd : d < l.length) (hk : (zae l (d : Int)).f0 = 2) (h4 : (zae l (d : Int)).f4 ≠ 0) {s : ByteArray} (hs : zbY s = 0) (hb : bsAt (zae l (d : Int)).f2 s = false) (hl : (zae l (d : Int)).f2.length < 64) {n : Nat} (hn : n ≤ l.length) (hn64 : n < 64) (hfree : n < l.length → (zae l (n : Int)).f0 = 0) {kind : Int} {target : ByteArray} (hkp : KindP kind target) {now : Int} (ht : zct now) : MayP (addN (zbH l (n : Int) kind target now) (d : Int) s (n : Int) now) := by
 have hnd : n ≠ d := fun e => by subst e; have := hfree hd; omega
 have hn0 : 0 < n := Nat.pos_of_ne_zero fun e => by subst e; have := hfree h.pos; have := h.k0; omega
 have hwl := withNew_len l n hn kind target now
 have hla : (addN (zbH l (n : Int) kind target now) (d : Int) s (n : Int) now).length = max l.length (n + 1) := by rw [addN_len, hwl]
 have hfn : n < l.length → (zae l (n : Int)).f2 = [] := fun q => (h.nodes n q).leaf (by rw [hfree q]; decide)
 have hrd : ∀ j : Nat, (zae (addN (zbH l (n : Int) kind target now) (d : Int) s (n : Int) now) (j : Int)) = if n = j then ⟨kind, [], [], target, 1, now⟩ else if d = j then { (zae l (d : Int)) with f2 := insN (zae l (d : Int)).f2 s (n : Int), f5 := now } else (zae l (j : Int)) := fun j => by
  rw [addN_nd _ _ (by omega), withNew_nd _ _ hn, withNew_nd _ _ hn, if_neg hnd]
  by_cases e : n = j
  ·rw [if_pos e, if_neg (by omega), if_pos e]
  ·rw [if_neg e, if_neg e]
 have hc : ∀ i, cnt (addN (zbH l (n : Int) kind target now) (d : Int) s (n : Int) now) i = cnt l i + if n = i then 1 else 0 := fun i => by
  rw [addN_cnt _ _ (by omega), withNew_cnt l n hn hfn]
  by_cases e : n = i
  ·rw [if_pos (by omega), if_pos e]
  ·rw [if_neg (by omega), if_neg e]
 generalize addN (zbH l (n : Int) kind target now) (d : Int) s (n : Int) now = l' at *
 have hno := h.free_names hfree
 have hkk : ∀ j : Nat, j ≠ n → (zae l' (j : Int)).f0 = (zae l (j : Int)).f0 := fun j hj => by
  rw [hrd, if_neg (by omega)]
  by_cases e2 : d = j
  ·subst e2; rw [if_pos rfl]
  ·rw [if_neg e2]
 have hsub : ∀ j : Nat, j < l.length → ∀ x ∈ (zae l (j : Int)).f2, x ∈ (zae l' (j : Int)).f2 := fun j hj x hx => by
  rw [hrd]
  by_cases e : n = j
  ·subst e; rw [hfn hj] at hx; cases hx
  ·rw [if_neg e]
   by_cases e2 : d = j
   ·subst e2; rw [if_pos rfl]; exact insN_mem.2 (.inr hx)
   ·rw [if_neg e2]; exact hx
 have hnin : ∀ x, zbN l x → x.f1 ≠ (n : Int) → zbN l' x := fun x hx hne => by
  obtain ⟨m, hm, h1, h2, h3⟩ := hx.nat
  exact nameIn_of hm h1 (by omega) (by rw [hkk m (by omega)]; exact h3)
 have hreach : ∀ i, Reach l i → Reach l' i := fun i hr => by
  by_cases e : i = n
  ·subst e
   cases hr with
   | root => exact .root
   | @step j x hj hjl hx hd =>
    obtain ⟨m, hm, _, _, _⟩ := (h.names j hjl x hx).nat
    exact absurd hm (by have := hno j hjl x hx; rw [hm, Int.toNat_natCast] at this; exact fun _ => this rfl)
  ·exact Reach.keep n (by
    by_cases q : n < l.length
    ·exact hfn q
    ·unfold zae; rw [Int.toNat_natCast, List.getD_eq_getElem?_getD, List.getElem?_eq_none (by omega)]; rfl) (by omega) h.names (fun j hj x hx m hm hkm hmn => ⟨⟨x, hsub j hj x hx, rfl⟩, by rw [hkk m hmn]; exact hkm⟩) hr e
 have hkn := hkp.ne
 refine ⟨by omega, by have := h.len; omega, fun h1 => ?_, ?_, ?_, fun j hj => ?_, fun j hj x hx => ?_, fun i h0 hi => ?_, fun i h0 hi hki => ?_⟩
 ·rw [show (l'.length : Int) - 1 = ((l'.length - 1 : Nat) : Int) by omega, hrd]
  by_cases e : n = l'.length - 1
  ·rw [if_pos e]; exact hkn
  ·rw [if_neg e]
   have hlast := h.last (by omega)
   rw [show (l.length : Int) - 1 = ((l'.length - 1 : Nat) : Int) by omega] at hlast
   by_cases e2 : d = l'.length - 1
   ·rw [if_pos e2]; rw [← e2] at hlast; exact hlast
   ·rw [if_neg e2]; exact hlast
 ·rw [hkk 0 (by omega)]; exact h.k0
 ·rw [hrd, if_neg (by omega)]
  by_cases e2 : d = 0
  ·subst e2; rw [if_pos rfl]; exact h.l0
  ·rw [if_neg e2]; exact h.l0
 ·rw [hrd]
  by_cases e : n = j
  ·rw [if_pos e]; exact hkp.node ht
  ·rw [if_neg e]
   by_cases e2 : d = j
   ·subst e2; rw [if_pos rfl]; exact (((h.nodes d hd).dir hk).ins hs hb hl _ _ ht).node hk
   ·rw [if_neg e2]; exact h.nodes j (by omega)
 ·rw [hrd] at hx
  by_cases e : n = j
  ·rw [if_pos e] at hx; cases hx
  ·rw [if_neg e] at hx
   by_cases e2 : d = j
   ·subst e2; rw [if_pos rfl] at hx
    rcases insN_mem.1 hx with rfl | hx
    ·exact nameIn_of rfl hn0 (by omega) (by rw [hrd, if_pos rfl]; exact hkn)
    ·exact hnin x (h.names d hd x hx) (hno d hd x hx)
   ·rw [if_neg e2] at hx; exact hnin x (h.names j (by omega) x hx) (hno j (by omega) x hx)
 ·rw [hrd, hc]
  by_cases e : n = i
  ·subst e; rw [if_pos rfl, if_pos rfl]
   have : cnt l n = 0 := cnt_zero.2 hno
   show (1 : Int) = _
   omega
  ·rw [if_neg e, if_neg e]
   have := h.links i h0 (by omega)
   by_cases e2 : d = i
   ·subst e2; rw [if_pos rfl]; show (zae l (d : Int)).f4 = _; omega
   ·rw [if_neg e2]; omega
 ·by_cases e : n = i
  ·subst e
   rw [hrd, if_pos rfl]
   refine ⟨Int.le_refl _, fun q => (by have q : (1 : Int) = 0 := q; omega), fun _ => ?_⟩
   have hrd2 := hreach d (h.reach hd hk h4)
   have hm : (⟨s, (n : Int)⟩ : S66) ∈ (zae l' (d : Int)).f2 := by rw [hrd, if_neg hnd, if_pos rfl]; exact insN_mem.2 (.inl rfl)
   have := Reach.step hrd2 (by omega) hm hki
   rwa [Int.toNat_natCast] at this
  ·rw [hkk i (by omega)] at hki
   have hD := h.dirs i h0 (by omega) hki
   rw [hrd, if_neg e]
   by_cases e2 : d = i
   ·subst e2; rw [if_pos rfl]
    exact ⟨hD.1, fun q => absurd q h4, fun q => hreach _ (hD.2.2 q)⟩
   ·rw [if_neg e2]
    exact ⟨hD.1, hD.2.1, fun q => hreach _ (hD.2.2 q)⟩
end Go.Proofs.Ytjghephnjkffcaa.PCk
