/- Parts of one proof, merged by a program of this repo: walks over the given program and plain facts. -/
import Derived.Test.YtjghephnjkffcaaGreatMTreeUnlinks5
import Derived.Test.YtjghephnjkffcaaGreatMTreeUnlinks10
import Derived.Test.YtjghephnjkffcaaGreatMTreeUnlinks7
import Derived.Test.YtjghephnjkffcaaGreatMTreeUnlinks11
import Derived.Test.YtjghephnjkffcaaGreatMTreeUnlinks4
import Derived.Test.YtjghephnjkffcaaGreatMTreeUnlinks9
import Derived.Test.YtjghephnjkffcaaGreatMTreeUnlinks8
import Derived.Test.YtjghephnjkffcaaGreatMTreeUnlinks2
namespace Go.Proofs.YtjghephnjkffcaaGreat.PAll
open Go.RowKit Go.Proofs.YtjghephnjkffcaaGreatW.PrintWords Go.Proofs.YtjghephnjkffcaaGreatW.PrintLast Go.Proofs.YtjghephnjkffcaaGreatW.PrintMore
attribute [local go_sem] zb9 zb7 zcu zct zbN zbM zb8 zb6
set_option linter.unusedVariables false
set_option linter.unusedSimpArgs false
theorem addN_nd (l : List S40) (d : Nat) (hd : d < l.length) (s : ByteArray) (n now : Int) (j : Nat) : (zah (addN l (d : Int) s n now) (j : Int)) = if d = j then { (zah l (d : Int)) with f2 := insN (zah l (d : Int)).f2 s n, f5 := now } else (zah l (j : Int)) := by
 unfold addN; rw [Int.toNat_natCast, nd_set _ _ _ hd]; rfl
theorem addN_cnt (l : List S40) (d : Nat) (hd : d < l.length) (s : ByteArray) (n now : Int) (i : Nat) : cnt (addN l (d : Int) s n now) i = cnt l i + if n = (i : Int) then 1 else 0 := by
 have h : cnt (l.set d { (zah l (d : Int)) with f2 := insN (zah l (d : Int)).f2 s n, f5 := now }) i + cntN (zah l (d : Int)).f2 i = cnt l i + cntN (insN (zah l (d : Int)).f2 s n) i := cnt_set l d { (zah l (d : Int)) with f2 := insN (zah l (d : Int)).f2 s n, f5 := now } hd i
 have h2 := cntN_ins (zah l (d : Int)).f2 s n i
 have e : addN l (d : Int) s n now = l.set d { (zah l (d : Int)) with f2 := insN (zah l (d : Int)).f2 s n, f5 := now } := by unfold addN; rw [Int.toNat_natCast]; rfl
 rw [e]
 omega
theorem removeN_nd (l : List S40) (d : Nat) (hd : d < l.length) (s : ByteArray) (now : Int) (j : Nat) : (zah (zcd l (d : Int) s now) (j : Int)) = if d = j then { (zah l (d : Int)) with f2 := delN (zah l (d : Int)).f2 s, f5 := now } else (zah l (j : Int)) := by
 unfold zcd; rw [Int.toNat_natCast, nd_set _ _ _ hd]; rfl
theorem removeN_cnt (l : List S40) (d : Nat) (hd : d < l.length) (s : ByteArray) (n now : Int) (hs : Sorted (zah l (d : Int)).f2) (hm : (⟨s, n⟩ : S50) ∈ (zah l (d : Int)).f2) (i : Nat) : cnt (zcd l (d : Int) s now) i + (if n = (i : Int) then 1 else 0) = cnt l i := by
 have h : cnt (l.set d { (zah l (d : Int)) with f2 := delN (zah l (d : Int)).f2 s, f5 := now }) i + cntN (zah l (d : Int)).f2 i = cnt l i + cntN (delN (zah l (d : Int)).f2 s) i := cnt_set l d { (zah l (d : Int)) with f2 := delN (zah l (d : Int)).f2 s, f5 := now } hd i
 have h2 := cntN_del hs hm i
 have e : zcd l (d : Int) s now = l.set d { (zah l (d : Int)) with f2 := delN (zah l (d : Int)).f2 s, f5 := now } := by unfold zcd; rw [Int.toNat_natCast]; rfl
 rw [e]
 omega
theorem links_cnt (u : List S40) (n : Nat) (hn : n < u.length) (v : Int) (i : Nat) : cnt (u.set n { (zah u (n : Int)) with f4 := v }) i = cnt u i := by
 have h : cnt (u.set n { (zah u (n : Int)) with f4 := v }) i + cntN (zah u (n : Int)).f2 i = cnt u i + cntN (zah u (n : Int)).f2 i := cnt_set u n { (zah u (n : Int)) with f4 := v } hn i
 omega
theorem linksBy_nd (u : List S40) (n : Nat) (hn : n < u.length) (d : Int) (j : Nat) : (zah (zcv u (n : Int) d) (j : Int)) = if n = j then { (zah u (n : Int)) with f4 := wrap64 ((zah u (n : Int)).f4 + d) } else (zah u (j : Int)) := by
 unfold zcv; rw [Int.toNat_natCast, nd_set _ _ _ hn]
theorem linksBy_cnt (u : List S40) (n : Nat) (hn : n < u.length) (d : Int) (i : Nat) : cnt (zcv u (n : Int) d) i = cnt u i := by
 unfold zcv; rw [Int.toNat_natCast]; exact links_cnt u n hn _ i
theorem linksDown_nd (u : List S40) (n : Nat) (hn : n < u.length) (j : Nat) : (zah (zbz u (n : Int)) (j : Int)) = if n = j then { (zah u (n : Int)) with f4 := wrap64 ((zah u (n : Int)).f4 - 1) } else (zah u (j : Int)) := by
 unfold zbz; rw [Int.toNat_natCast, nd_set _ _ _ hn]
theorem linksDown_cnt (u : List S40) (n : Nat) (hn : n < u.length) (i : Nat) : cnt (zbz u (n : Int)) i = cnt u i := by
 unfold zbz; rw [Int.toNat_natCast]; exact links_cnt u n hn _ i
theorem linksBy_len (u : List S40) (n : Int) (d : Int) : (zcv u n d).length = u.length := List.length_set
theorem linksDown_len (u : List S40) (n : Int) : (zbz u n).length = u.length := List.length_set
theorem DirP.ins {x : S40} (h : DirP x) {s : ByteArray} (hs : nameP s = 0) (hb : bsAt x.f2 s = false) (hl : x.f2.length < 64) (n now : Int) (ht : TimeP now) : DirP { x with f2 := insN x.f2 s n, f5 := now } :=
 ⟨ht, by show (insN x.f2 s n).length ≤ 64; rw [insN_len]; omega, fun y hy => by
  rcases insN_mem.1 hy with rfl | hy
  ·exact hs
  ·exact h.ok y hy, insN_sorted h.sorted hb n, h.data, h.target⟩
theorem DirP.del {x : S40} (h : DirP x) (s : ByteArray) (now : Int) (ht : TimeP now) : DirP { x with f2 := delN x.f2 s, f5 := now } :=
 ⟨ht, by have : (delN x.f2 s).length ≤ x.f2.length := (List.eraseIdx_sublist _ _).length_le; have := h.len; show (delN x.f2 s).length ≤ 64; omega, fun y hy => h.ok y (delN_sub hy), delN_sorted h.sorted s, h.data, h.target⟩
theorem zci.links {x : S40} (h : zci x) (hk : x.f0 ≠ 0) (v : Int) : zci { x with f4 := v } := by
 rcases h with h | h | h | h
 ·exact absurd h.1 hk
 ·exact .inr (.inl h)
 ·exact .inr (.inr (.inl h))
 ·exact .inr (.inr (.inr h))
theorem MayP.link {l : List S40} (h : MayP l) {d : Nat} (hd : d < l.length) (hk : (zah l (d : Int)).f0 = 2) (h4 : (zah l (d : Int)).f4 ≠ 0) {s : ByteArray} (hs : nameP s = 0) (hb : bsAt (zah l (d : Int)).f2 s = false) (hl : (zah l (d : Int)).f2.length < 64) {n : Nat} (hn : n < l.length) (hk0 : (zah l (n : Int)).f0 ≠ 0) (hk2 : (zah l (n : Int)).f0 ≠ 2) {now : Int} (ht : TimeP now) : MayP (zcv (addN l (d : Int) s (n : Int) now) (n : Int) 1) := by
 have hnd : d ≠ n := fun e => by subst e; exact hk2 hk
 have hn0 : 0 < n := Nat.pos_of_ne_zero fun e => by subst e; exact hk2 h.k0
 have hla : (addN l (d : Int) s (n : Int) now).length = l.length := addN_len ..
 have hrd : ∀ j : Nat, (zah (zcv (addN l (d : Int) s (n : Int) now) (n : Int) 1) (j : Int)) = if n = j then { (zah l (n : Int)) with f4 := (zah l (n : Int)).f4 + 1 } else if d = j then { (zah l (d : Int)) with f2 := insN (zah l (d : Int)).f2 s (n : Int), f5 := now } else (zah l (j : Int)) := fun j => by
  rw [linksBy_nd _ _ (by omega), addN_nd _ _ hd, addN_nd _ _ hd, if_neg hnd]
  have h1 := h.links n hn0 hn
  have h2 := h.cnt_small n
  rw [show wrap64 ((zah l (n : Int)).f4 + 1) = (zah l (n : Int)).f4 + 1 by rw [h1]; unfold wrap64; omega]
 have hc : ∀ i, cnt (zcv (addN l (d : Int) s (n : Int) now) (n : Int) 1) i = cnt l i + if n = i then 1 else 0 := fun i => by
  rw [linksBy_cnt _ _ (by omega), addN_cnt _ _ hd]
  by_cases e : n = i
  ·rw [if_pos (by omega), if_pos e]
  ·rw [if_neg (by omega), if_neg e]
 have hlen : (zcv (addN l (d : Int) s (n : Int) now) (n : Int) 1).length = l.length := by rw [linksBy_len, hla]
 generalize zcv (addN l (d : Int) s (n : Int) now) (n : Int) 1 = l' at *
 have hkk : ∀ j : Nat, (zah l' (j : Int)).f0 = (zah l (j : Int)).f0 := fun j => by
  rw [hrd]
  by_cases e : n = j
  ·subst e; rw [if_pos rfl]
  ·rw [if_neg e]
   by_cases e2 : d = j
   ·subst e2; rw [if_pos rfl]
   ·rw [if_neg e2]
 have hsub : ∀ j : Nat, ∀ x ∈ (zah l (j : Int)).f2, x ∈ (zah l' (j : Int)).f2 := fun j x hx => by
  rw [hrd]
  by_cases e : n = j
  ·subst e; rw [if_pos rfl]; exact hx
  ·rw [if_neg e]
   by_cases e2 : d = j
   ·subst e2; rw [if_pos rfl]; exact insN_mem.2 (.inr hx)
   ·rw [if_neg e2]; exact hx
 refine h.edit hlen (fun j _ => hkk j) ?_ (fun j hj => ?_) (fun j hj x hx => ?_) (fun i h0 hi => ?_) (fun i h0 hi hki => ?_)
 ·rw [hrd, if_neg (by omega)]
  by_cases e2 : d = 0
  ·subst e2; rw [if_pos rfl]; exact h.l0
  ·rw [if_neg e2]; exact h.l0
 ·rw [hrd]
  by_cases e : n = j
  ·subst e; rw [if_pos rfl]; exact (h.nodes n hn).links hk0 _
  ·rw [if_neg e]
   by_cases e2 : d = j
   ·subst e2; rw [if_pos rfl]; exact (((h.nodes d hd).dir hk).ins hs hb hl _ _ ht).node hk
   ·rw [if_neg e2]; exact h.nodes j hj
 ·rw [hrd] at hx
  by_cases e : n = j
  ·subst e; rw [if_pos rfl] at hx; exact h.names n hn x hx
  ·rw [if_neg e] at hx
   by_cases e2 : d = j
   ·subst e2; rw [if_pos rfl] at hx
    rcases insN_mem.1 hx with rfl | hx
    ·exact nameIn_of rfl hn0 hn hk0
    ·exact h.names d hd x hx
   ·rw [if_neg e2] at hx; exact h.names j hj x hx
 ·rw [hrd, hc]
  by_cases e : n = i
  ·subst e; rw [if_pos rfl, if_pos rfl]
   have := h.links n hn0 hn
   show (zah l (n : Int)).f4 + 1 = _
   omega
  ·rw [if_neg e, if_neg e]
   have := h.links i h0 hi
   by_cases e2 : d = i
   ·subst e2; rw [if_pos rfl]; show (zah l (d : Int)).f4 = _; omega
   ·rw [if_neg e2]; omega
 ·have hin : n ≠ i := fun e => by subst e; exact hk2 hki
  have hD := h.dirs i h0 hi hki
  have hr : Reach l i → Reach l' i := fun hr => Reach.keep n ((h.nodes n hn).leaf hk2) (by omega) h.names (fun j hj x hx m hm hkm _ => ⟨⟨x, hsub j x hx, rfl⟩, by rw [hkk]; exact hkm⟩) hr (fun e => hin e.symm)
  rw [hrd, if_neg hin]
  by_cases e2 : d = i
  ·subst e2; rw [if_pos rfl]
   exact ⟨hD.1, fun q => absurd q h4, fun q => hr (hD.2.2 q)⟩
  ·rw [if_neg e2]
   exact ⟨hD.1, hD.2.1, fun q => hr (hD.2.2 q)⟩
theorem MayP.unlink {l : List S40} (h : MayP l) {d : Nat} (hd : d < l.length) (hk : (zah l (d : Int)).f0 = 2) {s : ByteArray} {n : Nat} (hm : (⟨s, (n : Int)⟩ : S50) ∈ (zah l (d : Int)).f2) (hleaf : (zah l (n : Int)).f2 = []) {now : Int} (ht : TimeP now) : MayP (zbz (zcd l (d : Int) s now) (n : Int)) := by
 have hnd : d ≠ n := fun e => by subst e; rw [hleaf] at hm; cases hm
 obtain ⟨n', hn', hn0, hn, hk0⟩ := (h.names d hd _ hm).nat
 obtain rfl : n = n' := Int.ofNat.inj hn'
 have hla : (zcd l (d : Int) s now).length = l.length := removeN_len ..
 have hdp := (h.nodes d hd).dir hk
 have hcn := removeN_cnt l d hd s (n : Int) now hdp.sorted hm
 have hrd : ∀ j : Nat, (zah (zbz (zcd l (d : Int) s now) (n : Int)) (j : Int)) = if n = j then { (zah l (n : Int)) with f4 := (zah l (n : Int)).f4 - 1 } else if d = j then { (zah l (d : Int)) with f2 := delN (zah l (d : Int)).f2 s, f5 := now } else (zah l (j : Int)) := fun j => by
  rw [linksDown_nd _ _ (by omega), removeN_nd _ _ hd, removeN_nd _ _ hd, if_neg hnd]
  have h1 := h.links n hn0 hn
  have h2 := h.cnt_small n
  rw [show wrap64 ((zah l (n : Int)).f4 - 1) = (zah l (n : Int)).f4 - 1 by rw [h1]; unfold wrap64; omega]
 have hc : ∀ i, cnt (zbz (zcd l (d : Int) s now) (n : Int)) i + (if n = i then 1 else 0) = cnt l i := fun i => by
  rw [linksDown_cnt _ _ (by omega), ← hcn i]
  by_cases e : n = i
  ·rw [if_pos e, if_pos (show (n : Int) = (i : Int) by omega)]
  ·rw [if_neg e, if_neg (show ¬ (n : Int) = (i : Int) by omega)]
 have hlen : (zbz (zcd l (d : Int) s now) (n : Int)).length = l.length := by rw [linksDown_len, hla]
 generalize zbz (zcd l (d : Int) s now) (n : Int) = l' at *
 have hkk : ∀ j : Nat, (zah l' (j : Int)).f0 = (zah l (j : Int)).f0 := fun j => by
  rw [hrd]
  by_cases e : n = j
  ·subst e; rw [if_pos rfl]
  ·rw [if_neg e]
   by_cases e2 : d = j
   ·subst e2; rw [if_pos rfl]
   ·rw [if_neg e2]
 have hsub : ∀ j, j < l.length → ∀ x ∈ (zah l (j : Int)).f2, x.f1 ≠ (n : Int) → x ∈ (zah l' (j : Int)).f2 := fun j hj x hx hne => by
  rw [hrd]
  by_cases e : n = j
  ·subst e; rw [if_pos rfl]; exact hx
  ·rw [if_neg e]
   by_cases e2 : d = j
   ·subst e2; rw [if_pos rfl]
    refine (delN_mem hdp.sorted hm).2 ⟨hx, fun es => hne ?_⟩
    have h1 := (bs_mem hdp.sorted hm).2
    have h2 := (bs_mem (n := x.f1) hdp.sorted (show (⟨s, x.f1⟩ : S50) ∈ (zah l (d : Int)).f2 by rw [← es]; exact hx)).2
    rw [h1] at h2
    injection h2 with _ h3
    exact h3.symm
   ·rw [if_neg e2]; exact hx
 have hc1 : 0 < cnt l n := Nat.pos_of_ne_zero fun q => cnt_zero.1 q d hd _ hm rfl
 refine h.edit hlen (fun j _ => hkk j) ?_ (fun j hj => ?_) (fun j hj x hx => ?_) (fun i h0 hi => ?_) (fun i h0 hi hki => ?_)
 ·rw [hrd, if_neg (by omega)]
  by_cases e2 : d = 0
  ·subst e2; rw [if_pos rfl]; exact h.l0
  ·rw [if_neg e2]; exact h.l0
 ·rw [hrd]
  by_cases e : n = j
  ·subst e; rw [if_pos rfl]; exact (h.nodes n hn).links hk0 _
  ·rw [if_neg e]
   by_cases e2 : d = j
   ·subst e2; rw [if_pos rfl]; exact (hdp.del s _ ht).node hk
   ·rw [if_neg e2]; exact h.nodes j hj
 ·rw [hrd] at hx
  by_cases e : n = j
  ·subst e; rw [if_pos rfl] at hx; exact h.names n hn x hx
  ·rw [if_neg e] at hx
   by_cases e2 : d = j
   ·subst e2; rw [if_pos rfl] at hx
    exact h.names d hd x (delN_sub hx)
   ·rw [if_neg e2] at hx; exact h.names j hj x hx
 ·have hci := hc i
  rw [hrd]
  by_cases e : n = i
  ·subst e; rw [if_pos rfl]
   rw [if_pos rfl] at hci
   have := h.links n hn0 hn
   show (zah l (n : Int)).f4 - 1 = _
   omega
  ·rw [if_neg e]
   rw [if_neg e] at hci
   have := h.links i h0 hi
   by_cases e2 : d = i
   ·subst e2; rw [if_pos rfl]; show (zah l (d : Int)).f4 = _; omega
   ·rw [if_neg e2]; omega
 ·have hD := h.dirs i h0 hi hki
  by_cases hin : n = i
  ·subst hin
   rw [hrd, if_pos rfl]
   have := h.links n hn0 hn
   have h1 : (zah l (n : Int)).f4 = 1 := by have := hD.1; omega
   refine ⟨?_, fun _ => hleaf, fun q => ?_⟩
   ·show (zah l (n : Int)).f4 - 1 ≤ 1; omega
   ·have q : (zah l (n : Int)).f4 - 1 = 1 := q
    omega
  ·have hr : Reach l i → Reach l' i := fun hr => Reach.keep n hleaf (by omega) h.names (fun j hj x hx m hm2 hkm hmn => ⟨⟨x, hsub j hj x hx (by omega), rfl⟩, by rw [hkk]; exact hkm⟩) hr (fun e => hin e.symm)
   rw [hrd, if_neg hin]
   by_cases e2 : d = i
   ·subst e2; rw [if_pos rfl]
    exact ⟨hD.1, fun q => (by have := hD.2.1 q; rw [this] at hm; cases hm), fun q => hr (hD.2.2 q)⟩
   ·rw [if_neg e2]
    exact ⟨hD.1, hD.2.1, fun q => hr (hD.2.2 q)⟩
theorem withNew_nd (l : List S40) (n : Nat) (hn : n ≤ l.length) (kind : Int) (target : ByteArray) (now : Int) (j : Nat) : (zah (zbT l (n : Int) kind target now) (j : Int)) = if n = j then ⟨kind, [], [], target, 1, now⟩ else (zah l (j : Int)) := by
 unfold zbT
 rw [Int.toNat_natCast]
 by_cases e : n = l.length
 ·rw [if_pos (by omega), nd_set _ _ _ (by simp; omega)]
  by_cases e2 : n = j
  ·rw [if_pos e2, if_pos e2]
  ·rw [if_neg e2, if_neg e2]
   show (l ++ [z40]).getD (j : Int).toNat _ = l.getD (j : Int).toNat _
   rw [Int.toNat_natCast, List.getD_eq_getElem?_getD, List.getD_eq_getElem?_getD]
   by_cases e3 : j < l.length
   ·rw [List.getElem?_append_left e3]
   ·rw [List.getElem?_eq_none (by simp; omega), List.getElem?_eq_none (by omega)]
 ·rw [if_neg (by omega), nd_set _ _ _ (by omega)]
theorem withNew_len (l : List S40) (n : Nat) (hn : n ≤ l.length) (kind : Int) (target : ByteArray) (now : Int) : (zbT l (n : Int) kind target now).length = max l.length (n + 1) := by
 unfold zbT
 by_cases e : n = l.length
 ·rw [if_pos (by omega), List.length_set, List.length_append, List.length_singleton]; omega
 ·rw [if_neg (by omega), List.length_set]; omega
theorem withNew_cnt (l : List S40) (n : Nat) (hn : n ≤ l.length) (hz : n < l.length → (zah l (n : Int)).f2 = []) (kind : Int) (target : ByteArray) (now : Int) (i : Nat) : cnt (zbT l (n : Int) kind target now) i = cnt l i := by
 have hap : cnt (l ++ [z40]) i = cnt l i := by
  unfold cnt; rw [List.map_append, List.sum_append]; rfl
 unfold zbT
 rw [Int.toNat_natCast]
 by_cases e : n = l.length
 ·rw [if_pos (by omega)]
  have h := cnt_set (l ++ [z40]) n ⟨kind, [], [], target, 1, now⟩ (by simp; omega) i
  have h2 : (zah (l ++ [z40]) (n : Int)).f2 = [] := by
   rw [zce _ _ (by simp; omega)]
   have : ∀ (h : n < (l ++ [z40]).length), (l ++ [z40])[n] = z40 := fun h => by subst e; rw [List.getElem_append_right (Nat.le_refl _)]; simp
   rw [this]; rfl
  rw [h2, hap] at h
  exact h
 ·rw [if_neg (by omega)]
  have h := cnt_set l n ⟨kind, [], [], target, 1, now⟩ (by omega) i
  rw [hz (by omega)] at h
  exact h
def KindP (kind : Int) (target : ByteArray) : Prop := (kind = 1 ∧ target = ⟨#[]⟩) ∨ (kind = 2 ∧ target = ⟨#[]⟩) ∨ (kind = 3 ∧ target ≠ ⟨#[]⟩ ∧ target.size ≤ 512 ∧ (0 : UInt8) ∉ bytesOf target)
theorem KindP.node {kind : Int} {target : ByteArray} (h : KindP kind target) {now : Int} (ht : TimeP now) : zci ⟨kind, [], [], target, 1, now⟩ := by
 rcases h with ⟨h, h1⟩ | ⟨h, h1⟩ | ⟨h, h1, h2, h3⟩
 ·exact .inr (.inl ⟨h, ht, Nat.zero_le _, rfl, h1⟩)
 ·exact .inr (.inr (.inl ⟨h, ht, Nat.zero_le _, fun i hi => absurd hi (Nat.not_lt_zero _), rfl, h1⟩))
 ·exact .inr (.inr (.inr ⟨h, ht, h1, h2, h3, rfl, rfl⟩))
theorem KindP.ne {kind : Int} {target : ByteArray} (h : KindP kind target) : kind ≠ 0 := by
 rcases h with ⟨h, _⟩ | ⟨h, _⟩ | ⟨h, _⟩ <;> omega
theorem MayP.free_names {l : List S40} (h : MayP l) {n : Nat} (hfree : n < l.length → (zah l (n : Int)).f0 = 0) : ∀ j, j < l.length → ∀ x ∈ (zah l (j : Int)).f2, x.f1 ≠ (n : Int) := fun j hj x hx e => by
 obtain ⟨m, hm, h1, h2, h3⟩ := (h.names j hj x hx).nat
 obtain rfl : n = m := by omega
 exact h3 (hfree h2)
theorem MayP.make {l : List S40} (h : MayP l) {d : Nat} (hd : d < l.length) (hk : (zah l (d : Int)).f0 = 2) (h4 : (zah l (d : Int)).f4 ≠ 0) {s : ByteArray} (hs : nameP s = 0) (hb : bsAt (zah l (d : Int)).f2 s = false) (hl : (zah l (d : Int)).f2.length < 64) {n : Nat} (hn : n ≤ l.length) (hn64 : n < 64) (hfree : n < l.length → (zah l (n : Int)).f0 = 0) {kind : Int} {target : ByteArray} (hkp : KindP kind target) {now : Int} (ht : TimeP now) : MayP (addN (zbT l (n : Int) kind target now) (d : Int) s (n : Int) now) := by
 have hnd : n ≠ d := fun e => by subst e; have := hfree hd; omega
 have hn0 : 0 < n := Nat.pos_of_ne_zero fun e => by subst e; have := hfree h.pos; have := h.k0; omega
 have hwl := withNew_len l n hn kind target now
 have hla : (addN (zbT l (n : Int) kind target now) (d : Int) s (n : Int) now).length = max l.length (n + 1) := by rw [addN_len, hwl]
 have hfn : n < l.length → (zah l (n : Int)).f2 = [] := fun q => (h.nodes n q).leaf (by rw [hfree q]; decide)
 have hrd : ∀ j : Nat, (zah (addN (zbT l (n : Int) kind target now) (d : Int) s (n : Int) now) (j : Int)) = if n = j then ⟨kind, [], [], target, 1, now⟩ else if d = j then { (zah l (d : Int)) with f2 := insN (zah l (d : Int)).f2 s (n : Int), f5 := now } else (zah l (j : Int)) := fun j => by
  rw [addN_nd _ _ (by omega), withNew_nd _ _ hn, withNew_nd _ _ hn, if_neg hnd]
  by_cases e : n = j
  ·rw [if_pos e, if_neg (by omega), if_pos e]
  ·rw [if_neg e, if_neg e]
 have hc : ∀ i, cnt (addN (zbT l (n : Int) kind target now) (d : Int) s (n : Int) now) i = cnt l i + if n = i then 1 else 0 := fun i => by
  rw [addN_cnt _ _ (by omega), withNew_cnt l n hn hfn]
  by_cases e : n = i
  ·rw [if_pos (by omega), if_pos e]
  ·rw [if_neg (by omega), if_neg e]
 generalize addN (zbT l (n : Int) kind target now) (d : Int) s (n : Int) now = l' at *
 have hno := h.free_names hfree
 have hkk : ∀ j : Nat, j ≠ n → (zah l' (j : Int)).f0 = (zah l (j : Int)).f0 := fun j hj => by
  rw [hrd, if_neg (by omega)]
  by_cases e2 : d = j
  ·subst e2; rw [if_pos rfl]
  ·rw [if_neg e2]
 have hsub : ∀ j : Nat, j < l.length → ∀ x ∈ (zah l (j : Int)).f2, x ∈ (zah l' (j : Int)).f2 := fun j hj x hx => by
  rw [hrd]
  by_cases e : n = j
  ·subst e; rw [hfn hj] at hx; cases hx
  ·rw [if_neg e]
   by_cases e2 : d = j
   ·subst e2; rw [if_pos rfl]; exact insN_mem.2 (.inr hx)
   ·rw [if_neg e2]; exact hx
 have hnin : ∀ x, zbY l x → x.f1 ≠ (n : Int) → zbY l' x := fun x hx hne => by
  obtain ⟨m, hm, h1, h2, h3⟩ := hx.nat
  exact nameIn_of hm h1 (by omega) (by rw [hkk m (by omega)]; exact h3)
 have hreach : ∀ i, Reach l i → Reach l' i := fun i hr => by
  by_cases e : i = n
  ·subst e
   cases hr with
   | root => exact .root
   | @step j x hj hjl hx hd =>
    obtain ⟨m, hm, _, _, _⟩ := (h.names j hjl x hx).nat
    exact absurd hm (by have := hno j hjl x hx; rw [hm, Int.toNat_natCast] at this; exact fun _ => this rfl)
  ·exact Reach.keep n (by
    by_cases q : n < l.length
    ·exact hfn q
    ·unfold zah; rw [Int.toNat_natCast, List.getD_eq_getElem?_getD, List.getElem?_eq_none (by omega)]; rfl) (by omega) h.names (fun j hj x hx m hm hkm hmn => ⟨⟨x, hsub j hj x hx, rfl⟩, by rw [hkk m hmn]; exact hkm⟩) hr e
 have hkn := hkp.ne
 refine ⟨by omega, by have := h.len; omega, fun h1 => ?_, ?_, ?_, fun j hj => ?_, fun j hj x hx => ?_, fun i h0 hi => ?_, fun i h0 hi hki => ?_⟩
 ·rw [show (l'.length : Int) - 1 = ((l'.length - 1 : Nat) : Int) by omega, hrd]
  by_cases e : n = l'.length - 1
  ·rw [if_pos e]; exact hkn
  ·rw [if_neg e]
   have hlast := h.last (by omega)
   rw [show (l.length : Int) - 1 = ((l'.length - 1 : Nat) : Int) by omega] at hlast
   by_cases e2 : d = l'.length - 1
   ·rw [if_pos e2]; rw [← e2] at hlast; exact hlast
   ·rw [if_neg e2]; exact hlast
 ·rw [hkk 0 (by omega)]; exact h.k0
 ·rw [hrd, if_neg (by omega)]
  by_cases e2 : d = 0
  ·subst e2; rw [if_pos rfl]; exact h.l0
  ·rw [if_neg e2]; exact h.l0
 ·rw [hrd]
  by_cases e : n = j
  ·rw [if_pos e]; exact hkp.node ht
  ·rw [if_neg e]
   by_cases e2 : d = j
   ·subst e2; rw [if_pos rfl]; exact (((h.nodes d hd).dir hk).ins hs hb hl _ _ ht).node hk
   ·rw [if_neg e2]; exact h.nodes j (by omega)
 ·rw [hrd] at hx
  by_cases e : n = j
  ·rw [if_pos e] at hx; cases hx
  ·rw [if_neg e] at hx
   by_cases e2 : d = j
   ·subst e2; rw [if_pos rfl] at hx
    rcases insN_mem.1 hx with rfl | hx
    ·exact nameIn_of rfl hn0 (by omega) (by rw [hrd, if_pos rfl]; exact hkn)
    ·exact hnin x (h.names d hd x hx) (hno d hd x hx)
   ·rw [if_neg e2] at hx; exact hnin x (h.names j (by omega) x hx) (hno j (by omega) x hx)
 ·rw [hrd, hc]
  by_cases e : n = i
  ·subst e; rw [if_pos rfl, if_pos rfl]
   have : cnt l n = 0 := cnt_zero.2 hno
   show (1 : Int) = _
   omega
  ·rw [if_neg e, if_neg e]
   have := h.links i h0 (by omega)
   by_cases e2 : d = i
   ·subst e2; rw [if_pos rfl]; show (zah l (d : Int)).f4 = _; omega
   ·rw [if_neg e2]; omega
 ·by_cases e : n = i
  ·subst e
   rw [hrd, if_pos rfl]
   refine ⟨Int.le_refl _, fun q => (by have q : (1 : Int) = 0 := q; omega), fun _ => ?_⟩
   have hrd2 := hreach d (h.reach hd hk h4)
   have hm : (⟨s, (n : Int)⟩ : S50) ∈ (zah l' (d : Int)).f2 := by rw [hrd, if_neg hnd, if_pos rfl]; exact insN_mem.2 (.inl rfl)
   have := Reach.step hrd2 (by omega) hm hki
   rwa [Int.toNat_natCast] at this
  ·rw [hkk i (by omega)] at hki
   have hD := h.dirs i h0 (by omega) hki
   rw [hrd, if_neg e]
   by_cases e2 : d = i
   ·subst e2; rw [if_pos rfl]
    exact ⟨hD.1, fun q => absurd q h4, fun q => hreach _ (hD.2.2 q)⟩
   ·rw [if_neg e2]
    exact ⟨hD.1, hD.2.1, fun q => hreach _ (hD.2.2 q)⟩
theorem MayP.bad {l : List S40} (h : MayP l) (e : Int) : Ev (fun k => zbw.f k l e) (l, e) := bad_ev (by have := h.len; omega) h.fits.n e (fun _ => h.ev)
theorem MayP.own {l : List S40} (h : MayP l) : Ev (fun k => za3.f k l) l := own_ev l (by have := h.len; omega) h.fits.n
theorem refdir_f (l : List S40) (d : Nat) (hd : d < l.length) : zaD.f l (d : Int) = some ((zah l (d : Int)).f0 == 2) := by
 unfold zaD.f; rw [if_pos (by omega), if_pos (by omega)]
theorem at_ev {l : List S40} (h : MayP l) (d : Nat) (hd : d < l.length) (hk : (zah l (d : Int)).f0 = 2) (s : ByteArray) : Ev (fun k => zaE.f k l (d : Int) s) (if bsAt (zah l (d : Int)).f2 s = true then (bs (zah l (d : Int)).f2 s : Int) else -1) := by
 have hdp := (h.nodes d hd).dir hk
 exact at_l0 d hd hdp.sorted hdp.len s (zah l (d : Int)).f2.length 0 (by omega) (fun j _ h => by omega)
theorem linkP_gen {l : List S40} {m : Bool} (hT : Ev (fun k => zaU.f k l) m) (ns : List Int) (now : Int) {tm : Bool} (ht : tm = true ↔ TimeP now) : Ev (fun k => linkP k l ns now) ((m && ns.all fun n => hasB l n) && tm) := by
 have hm := mayN_ev hT ns
 obtain ⟨b, hb, hbt⟩ := tree_time_ now
 have e : b = tm := Bool.eq_iff_iff.2 (hbt.trans ht.symm)
 subst e
 unfold linkP
 refine Ev.bind hm ?_
 cases (m && ns.all fun n => hasB l n) with
 | true => exact Ev.congr (fun _ => if_pos rfl) (Ev.congr (fun _ => by rw [hb]; rfl) (Ev.now _))
 | false => exact Ev.congr (fun _ => if_neg (by simp)) (Ev.now _)
def elseR (m : Bool) (l : List S40) : List S40 := if m = true then l else []
theorem bad100 {l : List S40} (hf : Fits l) {m : Bool} (hT : Ev (fun k => zaU.f k l) m) : Ev (fun k => zbw.f k l 100) (elseR m l, 100) := by
 cases m with
 | true => exact (of_may hf hT).bad 100
 | false => exact bad_not hT
theorem told_ev {r : List S40} (hl : r.length < 9223372036854775807) (hf : ∀ x ∈ r, FitsN x) (e : Int) : Ev (fun k => zbk.f k r e r e) true := by
 unfold zbk.f
 refine Ev.congr (f := fun k => (zba.f k r r).bind fun t => some t) (fun k => ?_) (Ev.bind ((eqTree r r hl hf).out rfl) (Ev.now _))
 unfold za8.f
 rw [Option.bind_some, if_pos rfl]
def SpoilG (k : Nat) (r : List S40) : Prop := (∀ x ∈ r, zaW.f k x.f1 = some ()) ∧ r.length ≤ 1000000 ∧ ∀ x ∈ r, x.f2.length ≤ 1000000
theorem bytes_all : ∀ (r : List S40), (∀ x ∈ r, x.f1.length < 140737488355328) → ∃ K, ∀ k, K ≤ k → ∀ x ∈ r, zaW.f k x.f1 = some ()
 | [], _ => ⟨0, fun _ _ _ h => (by cases h)⟩
 | x :: t, h => by
  obtain ⟨K1, h1⟩ := bytes_ev x.f1 (h x (List.mem_cons_self ..))
  obtain ⟨K2, h2⟩ := bytes_all t (fun y hy => h y (List.mem_cons_of_mem _ hy))
  exact ⟨K1 + K2, fun k hk y hy => by
   rcases List.mem_cons.1 hy with rfl | hy
   ·exact h1 k (by omega)
   ·exact h2 k (by omega) y hy⟩
theorem mem_nd {r : List S40} {x : S40} (hx : x ∈ r) : ∃ j, j < r.length ∧ x = (zah r (j : Int)) := by
 obtain ⟨j, hj, e⟩ := List.getElem_of_mem hx
 exact ⟨j, hj, by rw [← e]; show _ = r.getD (j : Int).toNat _; rw [Int.toNat_natCast, List.getD_eq_getElem?_getD, List.getElem?_eq_getElem hj]; rfl⟩
theorem MayP.spoil {r : List S40} (h : MayP r) : ∃ K, ∀ k, K ≤ k → SpoilG k r := by
 have hd : ∀ x ∈ r, x.f1.length ≤ 16384 ∧ x.f2.length ≤ 64 := fun x hx => by
  obtain ⟨j, hj, rfl⟩ := mem_nd hx
  exact ⟨nodeP_data (h.nodes j hj), nodeP_names (h.nodes j hj)⟩
 obtain ⟨K, hK⟩ := bytes_all r (fun x hx => by have := (hd x hx).1; omega)
 exact ⟨K, fun k hk => ⟨hK k hk, by have := h.len; omega, fun x hx => by have := (hd x hx).2; omega⟩⟩
theorem spoil_nil : ∃ K, ∀ k, K ≤ k → SpoilG k [] := ⟨0, fun _ _ => ⟨fun _ h => (by cases h), Nat.zero_le _, fun _ h => (by cases h)⟩⟩
theorem else_spoil {l : List S40} (hf : Fits l) {m : Bool} (hT : Ev (fun k => zaU.f k l) m) : ∃ K, ∀ k, K ≤ k → SpoilG k (elseR m l) := by
 cases m with
 | true => exact (of_may hf hT).spoil
 | false => exact spoil_nil
theorem MayP.told {r : List S40} (h : MayP r) (e : Int) : Ev (fun k => zbk.f k r e r e) true := told_ev (by have := h.len; omega) h.fits.n e
theorem else_told {l : List S40} (hf : Fits l) {m : Bool} (hT : Ev (fun k => zaU.f k l) m) : Ev (fun k => zbk.f k (elseR m l) 100 (elseR m l) 100) true := by
 cases m with
 | true => exact (of_may hf hT).told 100
 | false => exact told_ev (r := []) (by decide) (fun _ h => (by cases h)) 100
def takeN (l : List S40) (d : Int) (i : Nat) (now : Int) : List S40 :=
 l.set d.toNat { zah l d with f2 := (zah l d).f2.take i ++ (zah l d).f2.drop (i + 1), f5 := now }
set_option maxHeartbeats 8000000 in
set_option maxRecDepth 100000 in
theorem gangwayref13_take.calls (k : Nat) (W : World) (base g c N : Nat) (ok : Nat → Prop) (l : List S40) (hN : l.length = N) (d : Int) (s : ByteArray) (i : Nat) (n now : Int) (hS : Kd.S k40 40 W base ok (.slice (some ⟨g, 0, none⟩) N c) l) (h0 : 0 ≤ d) (h1 : d < (N : Int)) (hi : i < (zah l d).f2.length) (hat : zaE.f k l d s = some (i : Int)) (hn : (zav (zah l d).f2 (i : Int)).f1 = n) (hn0 : 0 ≤ n) (hn1 : n < (N : Int)) (hfresh : ∀ k, W.heap.size ≤ k → ok k) (hbase : base ≤ W.heap.size) (hl : (zah l d).f2.length ≤ 1000000)
  (hcn : zaC.f k ((zah l d).f2.take i) = some ((zah l d).f2.take i)) :
  Calls Tryz.prog 73 #[.agg #[.slice (some ⟨g, 0, none⟩) N c], .int .i64 d, .string s, .int .i64 now] W fun e w' => e = .returned (.tuple #[]) ∧ Kd.S k40 40 w' base ok (.slice (some ⟨g, 0, none⟩) N c) (zbz (takeN l d i now) n) ∧ Below base W w' ∧ (∀ k, k < W.heap.size → ¬ ok k → w'.heap[k]? = W.heap[k]?) := by
 obtain rfl := hN
 have hut := Tryz.underlying24
 have hun := Tryz.underlying40
 have hum := Tryz.underlying50
 obtain ⟨A, m, hc2, hm, hC, hog, hgl, hbg, HK⟩ := names_anew hS d h0 h1 hbase hfresh
 have HS := zaa.mk hS
 obtain ⟨ns, hns⟩ : ∃ ns, ns = (zah l d).f2 := ⟨_, rfl⟩
 have HSET : zaa (∀ t : List S50, t = ns.take i ++ ns.drop (i + 1) → l.set d.toNat { zah l d with f2 := t, f5 := now } = takeN l d i now) := ⟨fun t ht => by unfold takeN; rw [ht, hns]⟩
 rw [← hns] at hc2 hm hC hcn hl hi hn
 have hx2 : (W.alloc (.cells #[.slice (some ⟨g, 0, none⟩) l.length c] 24)).cell? ⟨g, d.toNat * 6 + 2, none⟩ = some (.slice A ns.length m) := (World.cell?_alloc_lt _ _ _ (World.block_lt_of_cell? _ _ hc2)).trans hc2
 have HX := zaa.mk (zbd W (.cells #[.slice (some ⟨g, 0, none⟩) l.length c] 24))
 have HB := zaa.mk (zac (Below.refl W.heap.size W) (.cells #[.slice (some ⟨g, 0, none⟩) l.length c] 24))
 have HCN := zaa.mk (Kd.C_below hC HB.out)
 have HTC := zaa.mk (Kd.C_below (Kd.zbt hS).2.2 HB.out)
 have HCL := zaa.mk (Kd.zbt hS).2.1
 have HAT := zaa.mk hat
 have HI := zaa.mk hi
 have HM := zaa.mk hm
 have HKK := zaa.mk HK
 have HCP := zaa.mk hcn
 have HOG := zaa.mk hog
 have HGL := zaa.mk hgl
 have HBG := zaa.mk hbg
 have p0 := eq_true h0
 have p1 := eq_true h1
 have hmax : ns.length ≤ 9223372036854775807 := by omega
 have HN0 : zaa (0 ≤ n) := ⟨by omega⟩
 have HN1 := zaa.mk hn1
 have HLEN : zaa ((takeN l d i now).length = l.length) := ⟨List.length_set⟩
 have q0 := eq_true HN0.out
 have q1 := eq_true hn1
 obtain ⟨na, hA, hx0, hx1⟩ := zbR HCN.out (i : Int) (by omega) (by omega)
 subst hA
 rw [Int.toNat_natCast] at hx1
 rw [hn] at hx1
 have hxn := hx1
 have ht1 := nameCut_to (some na) m ns i (Nat.le_of_lt hi) HM.out
 obtain ⟨A', c', hd1, hdc⟩ := nameCut_from (some na) m ns (i + 1) hi HM.out
 rw [show ((i + 1 : Nat) : Int) = (i : Int) + 1 from Int.natCast_add i 1] at hd1
 have HDC := zaa.mk hdc
 clear hS hfresh hC hcn HK hc2 hns hog hgl hbg hm hx0 hx1 hdc hat hn
 go_enter Tryz.func73, Tryz.ntmps73
 go_wp2_with (first | (go_at_call 79; refine (zaE.calls k (some ⟨g, 0, none⟩) c l d s (i : Int) _ HTC.out HCL.out HAT.out).mono ?_; rintro e' w0 ⟨rfl, hb⟩; have HB0 := zaa.mk hb; have HX0 := zaa.mk (zan HX.out hb); have hx20 := (hb.cell (World.block_lt_of_cell? _ _ hx2)).trans hx2; have hx2n0 := (hb.cell (World.block_lt_of_cell? _ _ hxn)).trans hxn; have hct0 := (zad HX0.out 0).trans rfl; have HCN0 := zaa.mk (Kd.C_below HCN.out hb); clear hb) | (go_at_call 90; refine (copy_take k (some na) m ns i (Nat.le_of_lt HI.out) HM.out HCP.out _ HCN0.out).mono ?_; rintro e' w1 ⟨v, rfl, hR, hb⟩; have HR1 := zaa.mk hR; have HB1 := zaa.mk hb; have HX1 := zaa.mk (zan HX0.out hb); have hx21 := (hb.cell (World.block_lt_of_cell? _ _ hx20)).trans hx20; have hct1 := (zad HX1.out 0).trans rfl; clear hR hb) | (at_builtin; refine Kd.zcy k50 (w0 := w0) w0.heap.size rfl (.tmp 36) (.tmp 43) 38 50 (.agg #[.string ⟨#[]⟩, .int .i64 0]) 24 rfl Tryz.underlying38 info50 rfl (by decide) (by omega) v (ns.take i) (ns.drop (i + 1)) _ _ _ (fun _ => True) (fun _ => False) rfl rfl HR1.out (Kd.C_below (HDC.out _ HCN0.out) HB1.out) (fun _ _ h => h) (fun _ h => h.elim) (fun _ _ => trivial) HB1.out HB1.out.size (by simp only [List.length_take, List.length_drop]; omega) ?_; intro v3 w3 hr3 hb3 hg3 hat3; obtain ⟨A3, m3, c3, rfl⟩ := slice_any hr3; have hsz0 : W.heap.size ≤ w0.heap.size := Nat.le_trans HB.out.size HB0.out.size; have hbw3 : Below W.heap.size W w3 := Below.trans (Below.trans HB.out (HB0.out.mono (by rw [World.size_alloc]; omega))) (hb3.mono hsz0); obtain ⟨hf3, ⟨u2, hu2⟩, ⟨u5, hu5⟩, hf5, hfin⟩ := HKK.out w3 _ _ hbw3 (Kd.R_lower hr3 hsz0); have hS5 := hfin now; rw [HSET.out _ rfl] at hS5; rw [← HLEN.out] at hS5; obtain ⟨hl4, hfl4, _, _, _, hnew⟩ := links_anew hS5 n HN0.out (by rw [HLEN.out]; exact HN1.out); rw [HLEN.out] at hnew; have HNEW := zaa.mk hnew; have HB3 := zaa.mk hbw3; have HX3 := zaa.mk (zaG (zaG (zan HX0.out hb3) (p := ⟨g, d.toNat * 6 + 2, none⟩) (by have := HGL.out; show _ ≠ g; omega) (.slice A3 m3 c3)) (p := ⟨g, d.toNat * 6 + 5, none⟩) (by have := HGL.out; show _ ≠ g; omega) (.int .i64 now)); have hct3 := (zad HX3.out 0).trans rfl; clear hr3 hb3 hg3 hat3 hfin hS5 hnew hsz0 hbw3))
 go_end0
 exact ⟨rfl, HNEW.out _, (((HB3.out.mono hbase).setCell HBG.out _).setCell HBG.out _).setCell HBG.out _, fun q hq hnq => ((Below.heap_setCell _ _ _ q (fun e => hnq (e ▸ HOG.out))).trans ((Below.heap_setCell _ _ _ q (fun e => hnq (e ▸ HOG.out))).trans (Below.heap_setCell _ _ _ q (fun e => hnq (e ▸ HOG.out))))).trans (HB3.out.block q hq)⟩
theorem zaZ {W : World} {g : Nat} {a : Value} {t : TypeId} (h : W.heap[g]? = some (.cells #[a] t (0, 0))) : W.cell? ⟨g, 0, none⟩ = some a := (zad h 0).trans rfl
def goneC (l : List S40) (n : Int) (isdir b : Bool) : Int := if isdir = true then (if b = true then (if (zah l n).f2.length > 0 then 55 else 0) else 54) else (if b = true then 31 else 0)
def zco (k : Nat) (l : List S40) (d : Int) (s : ByteArray) (isdir : Bool) : Option (Int × Int) :=
 (zbc.f k l d s).bind fun q => if q.2 = 0 then (zaD.f l q.1).bind fun b => some (q.1, goneC l q.1 isdir b) else some q
structure TakeG (k : Nat) (l : List S40) (d : Int) (s : ByteArray) (i : Nat) (n : Int) : Prop where
 d0 : 0 ≤ d
 d1 : d < (l.length : Int)
 hi : i < (zah l d).f2.length
 at_ : zaE.f k l d s = some (i : Int)
 hn : (zav (zah l d).f2 (i : Int)).f1 = n
 n0 : 0 ≤ n
 n1 : n < (l.length : Int)
 len : (zah l d).f2.length ≤ 1000000
 copy : zaC.f k ((zah l d).f2.take i) = some ((zah l d).f2.take i)
theorem dir_in {l : List S40} {n : Int} {b : Bool} (h : zaD.f l n = some b) : 0 ≤ n ∧ n < (l.length : Int) := by
 unfold zaD.f at h
 by_cases h0 : 0 ≤ n
 ·rw [if_pos h0] at h
  by_cases h1 : n < (l.length : Int)
  ·exact ⟨h0, h1⟩
  ·rw [if_neg h1] at h; cases h
 ·rw [if_neg h0] at h; cases h
set_option maxHeartbeats 8000000 in
set_option maxRecDepth 100000 in
theorem zcl.no (k : Nat) (A0 : Option Addr) (c0 : Nat) (l : List S40) (d : Int) (s : ByteArray) (isdir : Bool) (now : Int) (n : Int) (e : Int) (w : World) (hr0 : Kd.C k40 w A0 l.length l) (hc0 : l.length ≤ c0) (hE : zco k l d s isdir = some (n, e)) (hz : e ≠ 0) :
  Calls Tryz.prog 32 #[.agg #[.slice A0 l.length c0], .int .i64 d, .string s, .bool isdir, .int .i64 now] w fun e' w' => e' = .returned (.tuple #[.agg #[.slice A0 l.length c0], .int .i64 e]) ∧ Below w.heap.size w w' := by
 have HR0 := zaa.mk hr0
 have HC0 := zaa.mk hc0
 have hut := Tryz.underlying24
 have hun := Tryz.underlying40
 have hum := Tryz.underlying50
 have HB := zaa.mk (zac (zac (Below.refl w.heap.size w) (.cells #[.slice A0 l.length c0] 24)) (.cells #[.slice none 0 0] 24))
 have HT := zaa.mk (zai (zbd w (.cells #[.slice A0 l.length c0] 24)) (.cells #[.slice none 0 0] 24))
 have HV := zaa.mk (zbd (w.alloc (.cells #[.slice A0 l.length c0] 24)) (.cells #[.slice none 0 0] 24))
 rw [World.size_alloc] at HV
 clear hr0 hc0
 unfold zco at hE
 obtain ⟨⟨n1, e1⟩, hf, hE⟩ := Option.bind_eq_some_iff.mp hE
 have HF := zaa.mk hf
 clear hf
 by_cases z : e1 = 0
 ·subst z
  rw [if_pos rfl] at hE
  obtain ⟨b, hb, hE⟩ := Option.bind_eq_some_iff.mp hE
  have HD := zaa.mk hb
  have hin := dir_in hb
  clear hb
  have hE2 := Option.some.inj hE
  injection hE2 with en ee
  have en : n1 = n := en
  subst en
  clear hE
  unfold goneC at ee
  cases isdir with
  | true =>
   rw [if_pos rfl] at ee
   cases b with
   | true =>
    rw [if_pos rfl] at ee
    by_cases z : (zah l n1).f2.length > 0
    ·rw [if_pos z] at ee
     subst ee
     have ht0 := zaZ HT.out
     have htf := zaf HT.out 0
     have hv0 := zaZ HV.out
     have hvf := zaf HV.out 0
     go_enter Tryz.func32, Tryz.ntmps32
     go_wp2_with (first | fail)
     refine (zbc.calls k A0 c0 l d s n1 0 _ (Kd.C_below HR0.out HB.out) HC0.out HF.out).mono ?_
     rintro e' w1 ⟨rfl, hb⟩
     clear ht0 htf hv0 hvf
     replace HT := zaa.mk (zan (by repeat (first | exact HT.out | apply zaj | apply zai | apply zak)) hb)
     replace HV := zaa.mk (zan (by repeat (first | exact HV.out | apply zaj | apply zai | apply zak)) hb)
     replace HB := zaa.mk (zam (by repeat (first | exact HB.out | apply zac | apply zab | apply zae | apply zay)) hb)
     clear hb
     have ht0 := zaZ HT.out
     have htf := zaf HT.out 0
     have hv0 := zaZ HV.out
     have hvf := zaf HV.out 0
     go_wp2_with (first | fail)
     refine (zaD.calls A0 c0 l n1 true _ (Kd.C_below HR0.out HB.out) HC0.out HD.out).mono ?_
     rintro e' w2 ⟨rfl, hb⟩
     clear ht0 htf hv0 hvf
     replace HT := zaa.mk (zan (by repeat (first | exact HT.out | apply zaj | apply zai | apply zak)) hb)
     replace HV := zaa.mk (zan (by repeat (first | exact HV.out | apply zaj | apply zai | apply zak)) hb)
     replace HB := zaa.mk (zam (by repeat (first | exact HB.out | apply zac | apply zab | apply zae | apply zay)) hb)
     clear hb
     have ht0 := zaZ HT.out
     have htf := zaf HT.out 0
     have hv0 := zaZ HV.out
     have hvf := zaf HV.out 0
     obtain ⟨na, B1, m1, B2, m2, hA, hx0, hx1, hx2, hx3, hx4, hx5, hl1, hi1, hl2, hi2⟩ := zbe (Kd.C_below HR0.out HB.out) n1 hin.1 hin.2
     subst hA
     clear hx0 hx1 hx3 hx4 hx5 hl1 hi1 hl2 hi2
     have p0 := eq_true hin.1
     have p1 := eq_true hin.2
     go_wp2_with fail
     refine bodyPost_ret (zbp rfl _ _ (w.heap.size + 1) 24 #[.slice (some na) l.length c0] (0, 0) _ rfl (zaR HV.out 0 _ rfl) Tryz.underlying24 rfl (by kernel_rfl)) rfl ?_
     have hbz := HB.out.setCell (p := ⟨w.heap.size + 1, 0, none⟩) (by show _ ≤ _ + 1; omega) (.slice (some na) l.length c0)
     exact ⟨rfl, hbz⟩
    ·rw [if_neg z] at ee
     exact absurd ee.symm hz
   | false =>
    rw [if_neg (by decide)] at ee
    subst ee
    have ht0 := zaZ HT.out
    have htf := zaf HT.out 0
    have hv0 := zaZ HV.out
    have hvf := zaf HV.out 0
    go_enter Tryz.func32, Tryz.ntmps32
    go_wp2_with (first | fail)
    refine (zbc.calls k A0 c0 l d s n1 0 _ (Kd.C_below HR0.out HB.out) HC0.out HF.out).mono ?_
    rintro e' w1 ⟨rfl, hb⟩
    clear ht0 htf hv0 hvf
    replace HT := zaa.mk (zan (by repeat (first | exact HT.out | apply zaj | apply zai | apply zak)) hb)
    replace HV := zaa.mk (zan (by repeat (first | exact HV.out | apply zaj | apply zai | apply zak)) hb)
    replace HB := zaa.mk (zam (by repeat (first | exact HB.out | apply zac | apply zab | apply zae | apply zay)) hb)
    clear hb
    have ht0 := zaZ HT.out
    have htf := zaf HT.out 0
    have hv0 := zaZ HV.out
    have hvf := zaf HV.out 0
    go_wp2_with (first | fail)
    refine (zaD.calls A0 c0 l n1 false _ (Kd.C_below HR0.out HB.out) HC0.out HD.out).mono ?_
    rintro e' w2 ⟨rfl, hb⟩
    clear ht0 htf hv0 hvf
    replace HT := zaa.mk (zan (by repeat (first | exact HT.out | apply zaj | apply zai | apply zak)) hb)
    replace HV := zaa.mk (zan (by repeat (first | exact HV.out | apply zaj | apply zai | apply zak)) hb)
    replace HB := zaa.mk (zam (by repeat (first | exact HB.out | apply zac | apply zab | apply zae | apply zay)) hb)
    clear hb
    have ht0 := zaZ HT.out
    have htf := zaf HT.out 0
    have hv0 := zaZ HV.out
    have hvf := zaf HV.out 0
    go_wp2_with fail
    refine bodyPost_ret (zbp rfl _ _ (w.heap.size + 1) 24 #[.slice A0 l.length c0] (0, 0) _ rfl (zaR HV.out 0 _ rfl) Tryz.underlying24 rfl (by kernel_rfl)) rfl ?_
    have hbz := HB.out.setCell (p := ⟨w.heap.size + 1, 0, none⟩) (by show _ ≤ _ + 1; omega) (.slice A0 l.length c0)
    exact ⟨rfl, hbz⟩
  | false =>
   rw [if_neg (by decide)] at ee
   cases b with
   | true =>
    rw [if_pos rfl] at ee
    subst ee
    have ht0 := zaZ HT.out
    have htf := zaf HT.out 0
    have hv0 := zaZ HV.out
    have hvf := zaf HV.out 0
    go_enter Tryz.func32, Tryz.ntmps32
    go_wp2_with (first | fail)
    refine (zbc.calls k A0 c0 l d s n1 0 _ (Kd.C_below HR0.out HB.out) HC0.out HF.out).mono ?_
    rintro e' w1 ⟨rfl, hb⟩
    clear ht0 htf hv0 hvf
    replace HT := zaa.mk (zan (by repeat (first | exact HT.out | apply zaj | apply zai | apply zak)) hb)
    replace HV := zaa.mk (zan (by repeat (first | exact HV.out | apply zaj | apply zai | apply zak)) hb)
    replace HB := zaa.mk (zam (by repeat (first | exact HB.out | apply zac | apply zab | apply zae | apply zay)) hb)
    clear hb
    have ht0 := zaZ HT.out
    have htf := zaf HT.out 0
    have hv0 := zaZ HV.out
    have hvf := zaf HV.out 0
    go_wp2_with (first | fail)
    refine (zaD.calls A0 c0 l n1 true _ (Kd.C_below HR0.out HB.out) HC0.out HD.out).mono ?_
    rintro e' w2 ⟨rfl, hb⟩
    clear ht0 htf hv0 hvf
    replace HT := zaa.mk (zan (by repeat (first | exact HT.out | apply zaj | apply zai | apply zak)) hb)
    replace HV := zaa.mk (zan (by repeat (first | exact HV.out | apply zaj | apply zai | apply zak)) hb)
    replace HB := zaa.mk (zam (by repeat (first | exact HB.out | apply zac | apply zab | apply zae | apply zay)) hb)
    clear hb
    have ht0 := zaZ HT.out
    have htf := zaf HT.out 0
    have hv0 := zaZ HV.out
    have hvf := zaf HV.out 0
    go_wp2_with fail
    refine bodyPost_ret (zbp rfl _ _ (w.heap.size + 1) 24 #[.slice A0 l.length c0] (0, 0) _ rfl (zaR HV.out 0 _ rfl) Tryz.underlying24 rfl (by kernel_rfl)) rfl ?_
    have hbz := HB.out.setCell (p := ⟨w.heap.size + 1, 0, none⟩) (by show _ ≤ _ + 1; omega) (.slice A0 l.length c0)
    exact ⟨rfl, hbz⟩
   | false =>
    rw [if_neg (by decide)] at ee
    exact absurd ee.symm hz
 ·rw [if_neg z] at hE
  have hE2 := Option.some.inj hE
  injection hE2 with en ee
  subst en
  subst ee
  clear hE
  have Z : (e1 != 0) = true := by simpa using z
  have ht0 := zaZ HT.out
  have htf := zaf HT.out 0
  have hv0 := zaZ HV.out
  have hvf := zaf HV.out 0
  go_enter Tryz.func32, Tryz.ntmps32
  go_wp2_with (first | fail)
  refine (zbc.calls k A0 c0 l d s n1 e1 _ (Kd.C_below HR0.out HB.out) HC0.out HF.out).mono ?_
  rintro e' w1 ⟨rfl, hb⟩
  clear ht0 htf hv0 hvf
  replace HT := zaa.mk (zan (by repeat (first | exact HT.out | apply zaj | apply zai | apply zak)) hb)
  replace HV := zaa.mk (zan (by repeat (first | exact HV.out | apply zaj | apply zai | apply zak)) hb)
  replace HB := zaa.mk (zam (by repeat (first | exact HB.out | apply zac | apply zab | apply zae | apply zay)) hb)
  clear hb
  have ht0 := zaZ HT.out
  have htf := zaf HT.out 0
  have hv0 := zaZ HV.out
  have hvf := zaf HV.out 0
  go_wp2_with fail
  refine bodyPost_ret (zbp rfl _ _ (w.heap.size + 1) 24 #[.slice A0 l.length c0] (0, 0) _ rfl (zaR HV.out 0 _ rfl) Tryz.underlying24 rfl (by kernel_rfl)) rfl ?_
  have hbz := HB.out.setCell (p := ⟨w.heap.size + 1, 0, none⟩) (by show _ ≤ _ + 1; omega) (.slice A0 l.length c0)
  exact ⟨rfl, hbz⟩
set_option maxHeartbeats 8000000 in
set_option maxRecDepth 100000 in
theorem zcl.ok (k : Nat) (A0 : Option Addr) (c0 : Nat) (l : List S40) (d : Int) (s : ByteArray) (isdir : Bool) (now : Int) (n : Int) (r : List S40) (w : World) (hr0 : Kd.C k40 w A0 l.length l) (hc0 : l.length ≤ c0) (hE : zco k l d s isdir = some (n, 0)) (hcp : za4.f k l = some l) (hg : ∃ i, TakeG k l d s i n ∧ r = zbz (takeN l d i now) n) :
  Calls Tryz.prog 32 #[.agg #[.slice A0 l.length c0], .int .i64 d, .string s, .bool isdir, .int .i64 now] w fun e' w' => ∃ (A : Option Addr) (c : Nat), e' = .returned (.tuple #[.agg #[.slice A r.length c], .int .i64 0]) ∧ Kd.S k40 40 w' w.heap.size (fun _ => True) (.slice A r.length c) r ∧ Below w.heap.size w w' := by
 have HR0 := zaa.mk hr0
 have HC0 := zaa.mk hc0
 have hut := Tryz.underlying24
 have hun := Tryz.underlying40
 have hum := Tryz.underlying50
 have HB := zaa.mk (zac (zac (Below.refl w.heap.size w) (.cells #[.slice A0 l.length c0] 24)) (.cells #[.slice none 0 0] 24))
 have HT := zaa.mk (zai (zbd w (.cells #[.slice A0 l.length c0] 24)) (.cells #[.slice none 0 0] 24))
 have HV := zaa.mk (zbd (w.alloc (.cells #[.slice A0 l.length c0] 24)) (.cells #[.slice none 0 0] 24))
 rw [World.size_alloc] at HV
 clear hr0 hc0
 unfold zco at hE
 obtain ⟨⟨n1, e1⟩, hf, hE⟩ := Option.bind_eq_some_iff.mp hE
 have HF := zaa.mk hf
 clear hf
 by_cases z : e1 = 0
 ·subst z
  rw [if_pos rfl] at hE
  obtain ⟨b, hb, hE⟩ := Option.bind_eq_some_iff.mp hE
  have HD := zaa.mk hb
  have hin := dir_in hb
  clear hb
  have hE2 := Option.some.inj hE
  injection hE2 with en ee
  have en : n1 = n := en
  subst en
  clear hE
  obtain ⟨i, hg, hr⟩ := hg
  have HCP := zaa.mk hcp
  have HG := zaa.mk hg
  have hlr : r.length = l.length := by rw [hr]; unfold zbz takeN; rw [List.length_set, List.length_set]
  rw [hlr]
  have HRR := zaa.mk hr
  clear hcp hg hr
  unfold goneC at ee
  cases isdir with
  | true =>
   rw [if_pos rfl] at ee
   cases b with
   | true =>
    rw [if_pos rfl] at ee
    by_cases z : (zah l n1).f2.length > 0
    ·rw [if_pos z] at ee
     exact absurd ee (by decide)
    ·clear ee
     have ht0 := zaZ HT.out
     have htf := zaf HT.out 0
     have hv0 := zaZ HV.out
     have hvf := zaf HV.out 0
     go_enter Tryz.func32, Tryz.ntmps32
     go_wp2_with (first | fail)
     refine (zbc.calls k A0 c0 l d s n1 0 _ (Kd.C_below HR0.out HB.out) HC0.out HF.out).mono ?_
     rintro e' w1 ⟨rfl, hb⟩
     clear ht0 htf hv0 hvf
     replace HT := zaa.mk (zan (by repeat (first | exact HT.out | apply zaj | apply zai | apply zak)) hb)
     replace HV := zaa.mk (zan (by repeat (first | exact HV.out | apply zaj | apply zai | apply zak)) hb)
     replace HB := zaa.mk (zam (by repeat (first | exact HB.out | apply zac | apply zab | apply zae | apply zay)) hb)
     clear hb
     have ht0 := zaZ HT.out
     have htf := zaf HT.out 0
     have hv0 := zaZ HV.out
     have hvf := zaf HV.out 0
     go_wp2_with (first | fail)
     refine (zaD.calls A0 c0 l n1 true _ (Kd.C_below HR0.out HB.out) HC0.out HD.out).mono ?_
     rintro e' w2 ⟨rfl, hb⟩
     clear ht0 htf hv0 hvf
     replace HT := zaa.mk (zan (by repeat (first | exact HT.out | apply zaj | apply zai | apply zak)) hb)
     replace HV := zaa.mk (zan (by repeat (first | exact HV.out | apply zaj | apply zai | apply zak)) hb)
     replace HB := zaa.mk (zam (by repeat (first | exact HB.out | apply zac | apply zab | apply zae | apply zay)) hb)
     clear hb
     have ht0 := zaZ HT.out
     have htf := zaf HT.out 0
     have hv0 := zaZ HV.out
     have hvf := zaf HV.out 0
     obtain ⟨na, B1, m1, B2, m2, hA, hx0, hx1, hx2, hx3, hx4, hx5, hl1, hi1, hl2, hi2⟩ := zbe (Kd.C_below HR0.out HB.out) n1 hin.1 hin.2
     subst hA
     clear hx0 hx1 hx3 hx4 hx5 hl1 hi1 hl2 hi2
     have p0 := eq_true hin.1
     have p1 := eq_true hin.2
     go_wp2_with fail
     refine (za4.calls k (some na) c0 l l _ (Kd.C_below HR0.out HB.out) HC0.out HCP.out).mono ?_
     rintro e' w5 ⟨v, rfl, hS, hb⟩
     obtain ⟨g, cu, rfl, hgN, hgl, _⟩ := Kd.S_form hS (by have := HG.out.d1; have := HG.out.d0; omega)
     have HS := zaa.mk (Kd.zbB (Kd.zbr (ok' := fun q => q ≠ w.heap.size ∧ q ≠ w.heap.size + 1 ∧ q < w5.heap.size) (Kd.S_bound hS) (fun q hq => ⟨by have := zaP HT.out; have := hq.2.1; omega, by have := zaP HV.out; have := hq.2.1; omega, hq.2.2.1⟩)) HB.out.size)
     clear hS hgN hgl
     clear ht0 htf hv0 hvf
     replace HT := zaa.mk (zan (by repeat (first | exact HT.out | apply zaj | apply zai | apply zak)) hb)
     replace HV := zaa.mk (zan (by repeat (first | exact HV.out | apply zaj | apply zai | apply zak)) hb)
     replace HB := zaa.mk (zam (by repeat (first | exact HB.out | apply zac | apply zab | apply zae | apply zay)) hb)
     clear hb
     have HLT : zaa (w.heap.size < w5.heap.size ∧ w.heap.size + 1 < w5.heap.size) := ⟨zaP HT.out, zaP HV.out⟩
     go_upto_region 11 with fail
     replace HT := zaa.mk (zai HT.out (.cells #[.slice (some ⟨g, 0, none⟩) l.length cu] 24))
     replace HV := zaa.mk (zai HV.out (.cells #[.slice (some ⟨g, 0, none⟩) l.length cu] 24))
     replace HB := zaa.mk (zac HB.out (.cells #[.slice (some ⟨g, 0, none⟩) l.length cu] 24))
     replace HS := zaa.mk (Kd.za9 HS.out (zac (Below.refl _ _) (.cells #[.slice (some ⟨g, 0, none⟩) l.length cu] 24)))
     have HU := zaa.mk (zbd w5 (.cells #[.slice (some ⟨g, 0, none⟩) l.length cu] 24))
     have hgt : w.heap.size < w5.heap.size ∧ w.heap.size + 1 < w5.heap.size := HLT.out
     obtain ⟨g6, hg6⟩ : ∃ g6, g6 = w5.heap.size := ⟨_, rfl⟩
     rw [← hg6] at HU HS hgt ⊢
     clear hg6 HLT
     replace HS := zaa.mk (Kd.zbr (ok' := fun q => q ≠ w.heap.size ∧ q ≠ w.heap.size + 1 ∧ q ≠ g6) HS.out (fun q hq => ⟨hq.1, hq.2.1, by omega⟩))
     have ht0 := zaZ HT.out
     have htf := zaf HT.out 0
     have hv0 := zaZ HV.out
     have hvf := zaf HV.out 0
     have hu0 := zaZ HU.out
     have huf := zaf HU.out 0
     go_wp2_with fail
     refine (gangwayref13_take.calls k _ w.heap.size g cu l.length (fun q => q ≠ w.heap.size ∧ q ≠ w.heap.size + 1 ∧ q ≠ g6) l rfl d s i n1 now HS.out HG.out.d0 HG.out.d1 HG.out.hi HG.out.at_ HG.out.hn HG.out.n0 HG.out.n1 (fun q hq => ⟨by have := zaP HT.out; omega, by have := zaP HV.out; omega, by have := zaP HU.out; omega⟩) HB.out.size HG.out.len HG.out.copy).mono ?_
     rintro e' w7 ⟨rfl, hS7, hb7, ho7⟩
     clear ht0 htf hv0 hvf hu0 huf
     replace HT := zaa.mk ((ho7 w.heap.size (zaP HT.out) (by simp)).trans HT.out)
     replace HV := zaa.mk ((ho7 (w.heap.size + 1) (zaP HV.out) (by simp)).trans HV.out)
     replace HU := zaa.mk ((ho7 g6 (zaP HU.out) (by simp)).trans HU.out)
     replace HB := zaa.mk (HB.out.trans hb7)
     replace HS := zaa.mk hS7
     clear ho7 hb7 hS7
     have ht0 := zaZ HT.out
     have htf := zaf HT.out 0
     have hv0 := zaZ HV.out
     have hvf := zaf HV.out 0
     have hu0 := zaZ HU.out
     have huf := zaf HU.out 0
     go_wp2_with fail
     refine bodyPost_ret (zbp rfl _ _ (w.heap.size + 1) 24 #[.slice (some ⟨g, 0, none⟩) l.length cu] (0, 0) _ rfl (zaR HV.out 0 _ rfl) Tryz.underlying24 rfl (by kernel_rfl)) rfl ?_
     have hs := Kd.S_set HS.out HV.out (by decide) 0 (.slice (some ⟨g, 0, none⟩) l.length cu)
     rw [← HRR.out] at hs
     exact ⟨_, _, rfl, Kd.zbr hs (fun _ _ => trivial), HB.out.setCell (p := ⟨w.heap.size + 1, 0, none⟩) (by show _ ≤ _ + 1; omega) _⟩
   | false =>
    rw [if_neg (by decide)] at ee
    exact absurd ee (by decide)
  | false =>
   rw [if_neg (by decide)] at ee
   cases b with
   | true =>
    rw [if_pos rfl] at ee
    exact absurd ee (by decide)
   | false =>
    clear ee
    have ht0 := zaZ HT.out
    have htf := zaf HT.out 0
    have hv0 := zaZ HV.out
    have hvf := zaf HV.out 0
    go_enter Tryz.func32, Tryz.ntmps32
    go_wp2_with (first | fail)
    refine (zbc.calls k A0 c0 l d s n1 0 _ (Kd.C_below HR0.out HB.out) HC0.out HF.out).mono ?_
    rintro e' w1 ⟨rfl, hb⟩
    clear ht0 htf hv0 hvf
    replace HT := zaa.mk (zan (by repeat (first | exact HT.out | apply zaj | apply zai | apply zak)) hb)
    replace HV := zaa.mk (zan (by repeat (first | exact HV.out | apply zaj | apply zai | apply zak)) hb)
    replace HB := zaa.mk (zam (by repeat (first | exact HB.out | apply zac | apply zab | apply zae | apply zay)) hb)
    clear hb
    have ht0 := zaZ HT.out
    have htf := zaf HT.out 0
    have hv0 := zaZ HV.out
    have hvf := zaf HV.out 0
    go_wp2_with (first | fail)
    refine (zaD.calls A0 c0 l n1 false _ (Kd.C_below HR0.out HB.out) HC0.out HD.out).mono ?_
    rintro e' w2 ⟨rfl, hb⟩
    clear ht0 htf hv0 hvf
    replace HT := zaa.mk (zan (by repeat (first | exact HT.out | apply zaj | apply zai | apply zak)) hb)
    replace HV := zaa.mk (zan (by repeat (first | exact HV.out | apply zaj | apply zai | apply zak)) hb)
    replace HB := zaa.mk (zam (by repeat (first | exact HB.out | apply zac | apply zab | apply zae | apply zay)) hb)
    clear hb
    have ht0 := zaZ HT.out
    have htf := zaf HT.out 0
    have hv0 := zaZ HV.out
    have hvf := zaf HV.out 0
    go_wp2_with fail
    refine (za4.calls k A0 c0 l l _ (Kd.C_below HR0.out HB.out) HC0.out HCP.out).mono ?_
    rintro e' w5 ⟨v, rfl, hS, hb⟩
    obtain ⟨g, cu, rfl, hgN, hgl, _⟩ := Kd.S_form hS (by have := HG.out.d1; have := HG.out.d0; omega)
    have HS := zaa.mk (Kd.zbB (Kd.zbr (ok' := fun q => q ≠ w.heap.size ∧ q ≠ w.heap.size + 1 ∧ q < w5.heap.size) (Kd.S_bound hS) (fun q hq => ⟨by have := zaP HT.out; have := hq.2.1; omega, by have := zaP HV.out; have := hq.2.1; omega, hq.2.2.1⟩)) HB.out.size)
    clear hS hgN hgl
    clear ht0 htf hv0 hvf
    replace HT := zaa.mk (zan (by repeat (first | exact HT.out | apply zaj | apply zai | apply zak)) hb)
    replace HV := zaa.mk (zan (by repeat (first | exact HV.out | apply zaj | apply zai | apply zak)) hb)
    replace HB := zaa.mk (zam (by repeat (first | exact HB.out | apply zac | apply zab | apply zae | apply zay)) hb)
    clear hb
    have HLT : zaa (w.heap.size < w5.heap.size ∧ w.heap.size + 1 < w5.heap.size) := ⟨zaP HT.out, zaP HV.out⟩
    go_upto_region 11 with fail
    replace HT := zaa.mk (zai HT.out (.cells #[.slice (some ⟨g, 0, none⟩) l.length cu] 24))
    replace HV := zaa.mk (zai HV.out (.cells #[.slice (some ⟨g, 0, none⟩) l.length cu] 24))
    replace HB := zaa.mk (zac HB.out (.cells #[.slice (some ⟨g, 0, none⟩) l.length cu] 24))
    replace HS := zaa.mk (Kd.za9 HS.out (zac (Below.refl _ _) (.cells #[.slice (some ⟨g, 0, none⟩) l.length cu] 24)))
    have HU := zaa.mk (zbd w5 (.cells #[.slice (some ⟨g, 0, none⟩) l.length cu] 24))
    have hgt : w.heap.size < w5.heap.size ∧ w.heap.size + 1 < w5.heap.size := HLT.out
    obtain ⟨g6, hg6⟩ : ∃ g6, g6 = w5.heap.size := ⟨_, rfl⟩
    rw [← hg6] at HU HS hgt ⊢
    clear hg6 HLT
    replace HS := zaa.mk (Kd.zbr (ok' := fun q => q ≠ w.heap.size ∧ q ≠ w.heap.size + 1 ∧ q ≠ g6) HS.out (fun q hq => ⟨hq.1, hq.2.1, by omega⟩))
    have ht0 := zaZ HT.out
    have htf := zaf HT.out 0
    have hv0 := zaZ HV.out
    have hvf := zaf HV.out 0
    have hu0 := zaZ HU.out
    have huf := zaf HU.out 0
    go_wp2_with fail
    refine (gangwayref13_take.calls k _ w.heap.size g cu l.length (fun q => q ≠ w.heap.size ∧ q ≠ w.heap.size + 1 ∧ q ≠ g6) l rfl d s i n1 now HS.out HG.out.d0 HG.out.d1 HG.out.hi HG.out.at_ HG.out.hn HG.out.n0 HG.out.n1 (fun q hq => ⟨by have := zaP HT.out; omega, by have := zaP HV.out; omega, by have := zaP HU.out; omega⟩) HB.out.size HG.out.len HG.out.copy).mono ?_
    rintro e' w7 ⟨rfl, hS7, hb7, ho7⟩
    clear ht0 htf hv0 hvf hu0 huf
    replace HT := zaa.mk ((ho7 w.heap.size (zaP HT.out) (by simp)).trans HT.out)
    replace HV := zaa.mk ((ho7 (w.heap.size + 1) (zaP HV.out) (by simp)).trans HV.out)
    replace HU := zaa.mk ((ho7 g6 (zaP HU.out) (by simp)).trans HU.out)
    replace HB := zaa.mk (HB.out.trans hb7)
    replace HS := zaa.mk hS7
    clear ho7 hb7 hS7
    have ht0 := zaZ HT.out
    have htf := zaf HT.out 0
    have hv0 := zaZ HV.out
    have hvf := zaf HV.out 0
    have hu0 := zaZ HU.out
    have huf := zaf HU.out 0
    go_wp2_with fail
    refine bodyPost_ret (zbp rfl _ _ (w.heap.size + 1) 24 #[.slice (some ⟨g, 0, none⟩) l.length cu] (0, 0) _ rfl (zaR HV.out 0 _ rfl) Tryz.underlying24 rfl (by kernel_rfl)) rfl ?_
    have hs := Kd.S_set HS.out HV.out (by decide) 0 (.slice (some ⟨g, 0, none⟩) l.length cu)
    rw [← HRR.out] at hs
    exact ⟨_, _, rfl, Kd.zbr hs (fun _ _ => trivial), HB.out.setCell (p := ⟨w.heap.size + 1, 0, none⟩) (by show _ ≤ _ + 1; omega) _⟩
 ·rw [if_neg z] at hE
  have hE2 := Option.some.inj hE
  injection hE2 with en ee
  exact absurd ee z
theorem gone_val {l : List S40} (n : Nat) (hn : n < l.length) (isdir : Bool) : Ev (fun k => za0.f k l (n : Int) isdir) (goneC l (n : Int) isdir ((zah l (n : Int)).f0 == 2)) := by
 have hd := dir_f l n hn
 unfold goneC
 cases isdir with
 | false =>
  rw [if_neg (by decide)]
  by_cases hk : (zah l (n : Int)).f0 = 2
  ·rw [if_pos (by simpa using hk)]
   refine ⟨2, fun k hk2 => ?_⟩
   obtain ⟨m, rfl⟩ : ∃ m, k = m + 1 + 1 := ⟨k - 2, by omega⟩
   show za0.f (m + 1 + 1) l (n : Int) false = _
   unfold za0.f
   rw [if_neg (by simp), za0.j0, if_neg (by simp), if_neg (by simp), za0.j1, if_neg (by simp), if_neg (by simp), hd, Option.bind_some, if_pos (by simpa using hk)]
  ·rw [if_neg (by simpa using hk)]
   refine ⟨2, fun k hk2 => ?_⟩
   obtain ⟨m, rfl⟩ : ∃ m, k = m + 1 + 1 := ⟨k - 2, by omega⟩
   show za0.f (m + 1 + 1) l (n : Int) false = _
   unfold za0.f
   rw [if_neg (by simp), za0.j0, if_neg (by simp), if_neg (by simp), za0.j1, if_neg (by simp), if_neg (by simp), hd, Option.bind_some, if_neg (by simpa using hk)]
 | true =>
  rw [if_pos rfl]
  by_cases hk : (zah l (n : Int)).f0 = 2
  ·rw [if_pos (by simpa using hk)]
   by_cases hz : (zah l (n : Int)).f2 = []
   ·rw [if_neg (by rw [hz]; simp)]
    refine ⟨2, fun k hk2 => ?_⟩
    obtain ⟨m, rfl⟩ : ∃ m, k = m + 1 + 1 := ⟨k - 2, by omega⟩
    show za0.f (m + 1 + 1) l (n : Int) true = _
    unfold za0.f
    rw [if_pos rfl, hd, Option.bind_some, za0.j0, if_neg (by simpa using hk), if_pos rfl, if_pos (by omega), if_pos (by omega), za0.j1, if_neg (by rw [hz]; simp), if_pos rfl]
   ·have hz' := List.length_pos_iff.2 hz
    rw [if_pos hz']
    refine ⟨2, fun k hk2 => ?_⟩
    obtain ⟨m, rfl⟩ : ∃ m, k = m + 1 + 1 := ⟨k - 2, by omega⟩
    show za0.f (m + 1 + 1) l (n : Int) true = _
    unfold za0.f
    rw [if_pos rfl, hd, Option.bind_some, za0.j0, if_neg (by simpa using hk), if_pos rfl, if_pos (by omega), if_pos (by omega), za0.j1, if_pos]
    rw [decide_eq_true_eq]
    omega
  ·rw [if_neg (by simpa using hk)]
   refine ⟨2, fun k hk2 => ?_⟩
   obtain ⟨m, rfl⟩ : ∃ m, k = m + 1 + 1 := ⟨k - 2, by omega⟩
   show za0.f (m + 1 + 1) l (n : Int) true = _
   unfold za0.f
   rw [if_pos rfl, hd, Option.bind_some, za0.j0, if_pos (by simpa using hk)]
theorem takeN_eq (l : List S40) (d : Nat) (s : ByteArray) (now : Int) : takeN l (d : Int) (bs (zah l (d : Int)).f2 s) now = zcd l (d : Int) s now := by
 unfold takeN zcd
 rw [← List.eraseIdx_eq_take_drop_succ]
theorem MayP.takeG {l : List S40} (h : MayP l) {d : Nat} (hd : d < l.length) (hk : (zah l (d : Int)).f0 = 2) {s : ByteArray} {n : Nat} (hn : n < l.length) (hm : (⟨s, (n : Int)⟩ : S50) ∈ (zah l (d : Int)).f2) : ∃ K, ∀ k, K ≤ k → TakeG k l (d : Int) s (bs (zah l (d : Int)).f2 s) (n : Int) := by
 have hdp := (h.nodes d hd).dir hk
 have hlen := hdp.len
 obtain ⟨K, hK⟩ := copyNames ((zah l (d : Int)).f2.take (bs (zah l (d : Int)).f2 s)) (by rw [List.length_take]; omega)
 obtain ⟨K2, h2⟩ := at_ev h d hd hk s
 rw [if_pos ((bsAt_mem hdp.sorted s).2 ⟨_, hm⟩)] at h2
 obtain ⟨q1, q2⟩ := bs_mem hdp.sorted hm
 exact ⟨K + K2, fun k hk => ⟨by omega, by omega, q1, h2 k (by omega), by rw [q2], by omega, by omega, by omega, hK k (by omega)⟩⟩
def unlinkC (l : List S40) (d : Nat) (s : ByteArray) (isdir : Bool) : Int × Int := if (findR l d s).2 = 0 then ((findR l d s).1, goneC l (findR l d s).1 isdir ((zah l (findR l d s).1).f0 == 2)) else findR l d s
theorem find_node {l : List S40} (h : MayP l) {d : Nat} (hd : d < l.length) {s : ByteArray} (h0 : (findR l d s).2 = 0) : (zah l (d : Int)).f0 = 2 ∧ ∃ n : Nat, (findR l d s).1 = (n : Int) ∧ n < l.length ∧ (⟨s, (n : Int)⟩ : S50) ∈ (zah l (d : Int)).f2 := by
 obtain ⟨a1, a2, a3⟩ := findR_zero h hd (show findR l d s = ((findR l d s).1, 0) from Prod.ext rfl h0)
 obtain ⟨n, hn, hn0, hnl, hnk⟩ := (h.names d hd _ a3).nat
 have hn : (findR l d s).1 = (n : Int) := hn
 rw [hn] at a3
 exact ⟨a1, n, hn, hnl, a3⟩
theorem unlinkE_ev {l : List S40} (h : MayP l) {d : Nat} (hd : d < l.length) (s : ByteArray) (isdir : Bool) : Ev (fun k => unlinkE k l (d : Int) s isdir) (unlinkC l d s isdir) := by
 unfold unlinkE unlinkC
 refine Ev.bind (find_ev h d hd s) ?_
 by_cases h0 : (findR l d s).2 = 0
 ·obtain ⟨_, n, hn, hnl, _⟩ := find_node h hd h0
  rw [if_pos h0]
  refine Ev.congr (fun _ => if_pos h0) ?_
  rw [hn]
  exact Ev.bind (gone_val n hnl isdir) (Ev.now _)
 ·rw [if_neg h0]
  exact Ev.congr (fun _ => if_neg h0) (Ev.now _)
theorem refUnlinkE_ev {l : List S40} (h : MayP l) {d : Nat} (hd : d < l.length) (s : ByteArray) (hss : s.size < 9223372036854775807) (isdir : Bool) : Ev (fun k => zco k l (d : Int) s isdir) (unlinkC l d s isdir) := by
 unfold zco unlinkC
 refine Ev.bind (refFind_ev h d hd s hss) ?_
 by_cases h0 : (findR l d s).2 = 0
 ·obtain ⟨_, n, hn, hnl, _⟩ := find_node h hd h0
  rw [if_pos h0, if_pos h0]
  rw [hn]
  exact Ev.congr (fun _ => by rw [refdir_f l n hnl, Option.bind_some]) (Ev.now _)
 ·rw [if_neg h0, if_neg h0]
  exact Ev.now _
def UnlinksAt (k : Nat) (l : List S40) (n1 dir : Int) (s : ByteArray) (isdir : Bool) (now : Int) : Prop :=
 ∃ (m tm b1 b2 : Bool) (n0 : Int) (r1 : List S40) (e : Int), za4.f k l = some l ∧ zaw.f k l = some m ∧ za6.f now = some tm ∧ zbq.f l n1 = some b1 ∧ zbq.f l dir = some b2 ∧ zba.f k l l = some true ∧
  ((m && (tm && b2)) = false → e = 100 ∧ r1 = if m = true then l else []) ∧ ((m && (tm && b2)) = true → zco k l dir s isdir = some (n0, e) ∧ (e ≠ 0 → r1 = l) ∧ (e = 0 → ∃ i, TakeG k l dir s i n0 ∧ r1 = zbz (takeN l dir i now) n0)) ∧ zbG.f k l dir s isdir now = some (r1, e) ∧ zbk.f k r1 e r1 e = some true ∧ SpoilG k r1
theorem unlinks_at {l : List S40} (hl : l.length < 1599289640401) (hf : Fits l) (n1 dir : Int) (s : ByteArray) (hss : s.size < 9223372036854775807) (isdir : Bool) (now : Int) : ∃ K, ∀ k, K ≤ k → UnlinksAt k l n1 dir s isdir now := by
 obtain ⟨m, hT, ⟨K1, hM⟩⟩ := may_both l hf
 obtain ⟨tm, htm, htt⟩ := page_time now
 obtain ⟨K2, hC⟩ := copyTree l hl hf.n
 obtain ⟨K3, hE⟩ := (eqTree l l (by omega) hf.n).out rfl
 have hP := linkP_gen hT [dir] now htt
 rw [show ((m && [dir].all fun n => hasB l n) && tm) = (m && (tm && hasB l dir)) by cases m <;> cases tm <;> simp] at hP
 by_cases c : (m && (tm && hasB l dir)) = true
 ·rw [c] at hP
  have c' := c
  rw [Bool.and_eq_true, Bool.and_eq_true] at c'
  obtain ⟨hm, ht, hb2⟩ := c'
  rw [hm] at hT
  have h := of_may hf hT
  obtain ⟨d, rfl, hd, hkd⟩ := hasB_of l dir hb2
  obtain ⟨K4, h4⟩ := refUnlinkE_ev h hd s hss isdir
  have h5 := unlinkE_ev h hd s isdir
  obtain ⟨⟨n0, e⟩, hq⟩ : ∃ q, q = unlinkC l d s isdir := ⟨_, rfl⟩
  rw [← hq] at h4 h5
  by_cases z : e = 0
  ·subst z
   have hq' := hq
   unfold unlinkC at hq'
   have h0 : (findR l d s).2 = 0 := by
    by_cases h0 : (findR l d s).2 = 0
    ·exact h0
    ·rw [if_neg h0] at hq'; exact congrArg Prod.snd hq'.symm
   rw [if_pos h0] at hq'
   obtain ⟨a1, n, hn, hnl, a3⟩ := find_node h hd h0
   rw [hn] at hq'
   injection hq' with e1 e2
   subst e1
   have hdp := (h.nodes d hd).dir a1
   have hlen := hdp.len
   have hleaf : (zah l (n : Int)).f2 = [] := by
    unfold goneC at e2
    by_cases hk : (zah l (n : Int)).f0 = 2
    ·rw [show ((zah l (n : Int)).f0 == 2) = true by simpa using hk] at e2
     cases isdir with
     | false => rw [if_neg (by decide), if_pos rfl] at e2; exact absurd e2.symm (by decide)
     | true =>
      rw [if_pos rfl, if_pos rfl] at e2
      by_cases q : (zah l (n : Int)).f2.length > 0
      ·rw [if_pos q] at e2; exact absurd e2.symm (by decide)
      ·exact List.length_eq_zero_iff.1 (by omega)
    ·exact (h.nodes n hnl).leaf hk
   have hr := h.unlink hd a1 a3 hleaf (htt.1 ht)
   obtain ⟨K5, h5⟩ : Ev (fun k => zbG.f k l (d : Int) s isdir now) (zbz (zcd l (d : Int) s now) (n : Int), 0) := by
    unfold zbG.f
    refine Ev.bind hP (Ev.congr (fun _ => if_pos rfl) (Ev.bind h5 (Ev.congr (fun _ => if_pos rfl) (Ev.bind h.own ?_))))
    unfold unlinkD
    rw [if_pos ⟨by omega, by omega, by omega, by omega, by omega, (bs_mem hdp.sorted a3).1⟩]
    exact Ev.now _
   obtain ⟨K6, h6⟩ := hr.told 0
   obtain ⟨K7, h7⟩ := hr.spoil
   obtain ⟨K8, h8⟩ := h.takeG hd a1 hnl a3
   exact ⟨K1 + K2 + K3 + K4 + K5 + K6 + K7 + K8, fun k hk => ⟨m, tm, _, _, _, _, _, hC k (by omega), hM k (by omega), htm, is_f l n1, is_f l (d : Int), hE k (by omega), fun q => absurd (q.symm.trans c) (by decide), fun _ => ⟨h4 k (by omega), fun q => absurd rfl q, fun _ => ⟨_, h8 k (by omega), by rw [takeN_eq]⟩⟩, h5 k (by omega), h6 k (by omega), h7 k (by omega)⟩⟩
  ·obtain ⟨K5, h5⟩ : Ev (fun k => zbG.f k l (d : Int) s isdir now) (l, e) := by
    unfold zbG.f
    exact Ev.bind hP (Ev.congr (fun _ => if_pos rfl) (Ev.bind h5 (Ev.congr (fun _ => if_neg z) (h.bad _))))
   obtain ⟨K6, h6⟩ := h.told e
   obtain ⟨K7, h7⟩ := h.spoil
   exact ⟨K1 + K2 + K3 + K4 + K5 + K6 + K7, fun k hk => ⟨m, tm, _, _, _, _, _, hC k (by omega), hM k (by omega), htm, is_f l n1, is_f l (d : Int), hE k (by omega), fun q => absurd (q.symm.trans c) (by decide), fun _ => ⟨h4 k (by omega), fun _ => rfl, fun q => absurd q z⟩, h5 k (by omega), h6 k (by omega), h7 k (by omega)⟩⟩
 ·rw [Bool.not_eq_true] at c
  rw [c] at hP
  obtain ⟨K5, h5⟩ : Ev (fun k => zbG.f k l dir s isdir now) (elseR m l, 100) := by
   unfold zbG.f
   exact Ev.bind hP (Ev.congr (fun _ => if_neg (by simp)) (bad100 hf hT))
  obtain ⟨K6, h6⟩ := else_told hf hT
  obtain ⟨K7, h7⟩ := else_spoil hf hT
  exact ⟨K1 + K2 + K3 + K5 + K6 + K7, fun k hk => ⟨m, tm, _, _, 0, _, _, hC k (by omega), hM k (by omega), htm, is_f l n1, is_f l dir, hE k (by omega), fun _ => ⟨rfl, rfl⟩, fun q => absurd (q.symm.trans c) (by decide), h5 k (by omega), h6 k (by omega), h7 k (by omega)⟩⟩
set_option maxHeartbeats 8000000 in
set_option maxRecDepth 100000 in
theorem tree_spoil (k : Nat) (v : Value) (l : List S40) (w0 w : World) (hB : Below w0.heap.size w0 w) (h : Kd.S k40 40 w w0.heap.size (fun _ => True) v l) (hd : ∀ x ∈ l, zaW.f k x.f1 = some ()) (hm : l.length ≤ 1000000) (hn : ∀ x ∈ l, x.f2.length ≤ 1000000) :
  Calls Tryz.prog 56 #[.agg #[v]] w fun e w' => e = .returned (.tuple #[]) ∧ Below w0.heap.size w0 w' := by
 obtain ⟨A, c, rfl⟩ := Kd.zbI h
 have HS0 := zaa.mk (Kd.zbl (Kd.zbr (ok' := fun q => q < w.heap.size) (Kd.S_bound h) (fun q hq => hq.2.2.1)) (.cells #[.slice A l.length c] 24))
 have HN0 := zaa.mk (zbd w (.cells #[.slice A l.length c] 24))
 have HB0 := zaa.mk (zac hB (.cells #[.slice A l.length c] 24))
 obtain ⟨n, hnl⟩ : ∃ n, n = l.length := ⟨_, rfl⟩
 rw [← hnl] at HS0 HN0 HB0 ⊢
 have hnm : n ≤ 1000000 := by omega
 have HN := zaa.mk hnl
 have HD := zaa.mk hd
 have HM := zaa.mk hn
 have hut := Tryz.underlying24
 have hun := Tryz.underlying40
 have hum := Tryz.underlying50
 clear h hd hm hn hB hnl
 go_enter Tryz.func56, Tryz.ntmps56
 go_wp2
 go_loopw [2] (fun v2 w' => ∃ (i : Nat) (q : List S40), i ≤ n ∧ v2 = .int .i64 i ∧ zaa (q.length = n) ∧ zaa (∀ j : Nat, i ≤ j → q[j]? = l[j]?) ∧ zaa (Kd.S k40 40 w' w0.heap.size (fun q => q < w.heap.size) (.slice A n c) q) ∧ zaa (w'.heap[w.heap.size]? = some (.cells #[.slice A n c] 24 (0, 0))) ∧ zaa (Below w0.heap.size w0 w')) (fun v2 _ => n - (intOf v2).toNat)
 case atStart => exact ⟨0, l, Nat.zero_le _, rfl, ⟨HN.out.symm⟩, ⟨fun _ _ => rfl⟩, HS0, HN0, HB0⟩
 case round =>
  clear HS0 HN0 HB0
  obtain ⟨i, q, hi, rfl, HL, HQ, HS, HX, HB⟩ := hrel
  have hctx := (zad HX.out 0).trans rfl
  by_cases hlt : i < n
  ·obtain ⟨g, cap, e, hbg, hgl, cells, hgc⟩ := Kd.S_form HS.out (by rw [HL.out]; omega)
   rw [HL.out] at e
   injection e with e1 _ e3
   subst e1
   subst e3
   have HGN : zaa (g < w.heap.size) := ⟨(Kd.S_R HS.out).1 g rfl⟩
   obtain ⟨oki, cs, hcl, hM, hcc, hoki, hH⟩ := Kd.S_lend HS.out z40 (i : Int) (by omega) (by omega)
   rw [Int.toNat_natCast] at hM hcc
   obtain ⟨y, hy⟩ : ∃ y, y = q.getD i z40 := ⟨_, rfl⟩
   have hyl : y ∈ l := by
    have h1 : q[i]? = l[i]? := HQ.out i (Nat.le_refl _)
    have h2 : i < l.length := by rw [← HN.out]; exact hlt
    rw [hy, List.getD_eq_getElem?_getD, h1, List.getElem?_eq_getElem h2]
    exact List.getElem_mem _
   rw [← hy] at hM
   obtain ⟨v1, v2, rfl, hR1, hR2⟩ := k40_openM hM
   obtain ⟨A1, c1, rfl⟩ := Kd.zbW hR1
   obtain ⟨A2, c2, rfl⟩ := Kd.zbW hR2
   have HBY := zaa.mk (HD.out y hyl)
   have hmm := HM.out y hyl
   have hx1 : wr.cell? ⟨g, i * 6 + 1, none⟩ = some (.slice A1 y.f1.length c1) := hcc 1 _ rfl
   have HR1 := zaa.mk (Kd.R_flat (ok' := fun q => some q = (Value.slice A1 y.f1.length c1).ownBlock) (fun h => h) hR1 (fun k hk _ => hk.symm))
   have HO1 := zaa.mk hR1.1
   have HR2 := zaa.mk (Kd.R_apart' hR2 (Kd.R_typed hR1) (by decide))
   have HH := zaa.mk hH
   have HOK := zaa.mk hoki
   have HGL := zaa.mk hgl
   have HGB := zaa.mk hbg
   have HLT := zaa.mk hlt
   clear hcl hM hcc hoki hH hy hyl hbg hgl hgc hR1 hR2
   obtain ⟨m, hm2⟩ : ∃ m, m = y.f2.length := ⟨_, rfl⟩
   go_wp2_with (first | (go_at_call 41; refine (zaW.calls k (fun q => some q = (Value.slice A1 y.f1.length c1).ownBlock) _ y.f1 w0 _ HB.out HR1.out HBY.out).mono ?_; rintro e' w1 ⟨rfl, hb, hk⟩; have HB1 := zaa.mk hb; have HGL1 := zaa.mk (Nat.lt_of_lt_of_le HGL.out hk.1); have HX1 := zaa.mk ((hk.2 w.heap.size (zaP HX.out) (fun h => Nat.lt_irrefl _ ((HOK.out _ (HO1.out _ h.symm)).1))).trans HX.out); have HH1 := zaa.mk (Kd.H_kept HH.out hk (fun q _ hn h => hn (HO1.out q h.symm))); have HR21 := zaa.mk (Kd.R_kept HR2.out hk (fun q hq h => hq.2 h)); clear hb hk))
   have HM2 := zaa.mk hm2
   rw [← hm2] at HH1 HR21 hmm
   clear HX HS HH HR1 HR2 HB hctx hx1 hm2
   go_loopw [3] (fun v3 w' => ∃ (j : Nat) (ns : List S50), j ≤ m ∧ v3 = .int .i64 j ∧ zaa (ns.length = m) ∧ zaa (k50.R 50 w' w0.heap.size (fun q => oki q ∧ some q ≠ (Value.slice A1 y.f1.length c1).ownBlock) (.slice A2 m c2) ns) ∧ zaa (Kd.H k40 40 w' w0.heap.size (fun q => q < w.heap.size) (.slice (some ⟨g, 0, none⟩) n c) q i oki [.int .i64 y.f0, .slice A1 y.f1.length c1, .slice A2 m c2, .string y.f3, .int .i64 y.f4, .int .i64 y.f5]) ∧ zaa (w'.heap[w.heap.size]? = some (.cells #[.slice (some ⟨g, 0, none⟩) n c] 24 (0, 0))) ∧ zaa (Below w0.heap.size w0 w') ∧ zaa (g < w'.heap.size)) (fun v3 _ => m - (intOf v3).toNat)
   case atStart => exact ⟨0, y.f2, Nat.zero_le _, rfl, ⟨HM2.out.symm⟩, HR21, HH1, HX1, HB1, HGL1⟩
   case round =>
    clear HR21 HH1 HX1 HB1 HGL1 HM2
    obtain ⟨j, ns, hj, rfl, HNL, HR, HH, HX, HB, HGL2⟩ := hrel
    have hctx := (zad HX.out 0).trans rfl
    have hlt := HLT.out
    have hx2 : wr.cell? ⟨g, i * 6 + 2, none⟩ = some (.slice A2 m c2) := by
     obtain ⟨rows, _, _, _, _, hcell, _⟩ := Kd.H_raw HH.out (by omega) (by omega)
     have := hcell 2 _ rfl
     rwa [Int.toNat_natCast] at this
    by_cases hjl : j < m
    ·obtain ⟨g2, cap2, e2, hb2, hgl2, cells2, hgc2⟩ := Kd.R_form HR.out (by rw [HNL.out]; omega)
     rw [HNL.out] at e2
     injection e2 with e21 _ e23
     subst e21
     subst e23
     have HG2 : zaa (oki g2) := ⟨(HR.out.1 g2 rfl).1⟩
     obtain ⟨cc, hcl, hcM, hcc⟩ := Kd.R_get HR.out (⟨⟨#[]⟩, 0⟩ : S50) (j : Int) (by omega) (by omega)
     obtain ⟨xx, hxx⟩ : ∃ xx, xx = ns.getD (j : Int).toNat (⟨⟨#[]⟩, 0⟩ : S50) := ⟨_, rfl⟩
     rw [← hxx] at hcM
     obtain rfl := k50_openM hcM
     have HCC : zaa (∀ jj u, [Value.string xx.f0, Value.int .i64 xx.f1][jj]? = some u → wr.cell? ⟨g2, (j : Int).toNat * k50.sz + jj, none⟩ = some u) := ⟨fun jj u h => by have h2 := hcc jj u h; rwa [Addr.add_lit, Nat.zero_add] at h2⟩
     clear hcl hcM hcc hb2 hgc2 hxx
     go_wp2_with (first | (refine Kd.R_store k50 (w0 := w0) w0.heap.size rfl rfl 50 (.tmp 37) (.tmp 36) rfl 50 (o' := j * 2) (j : Int) 0 ns ⟨⟨#[115, 112, 111, 105, 108, 116]⟩, 0⟩ (.agg #[.string ⟨#[115, 112, 111, 105, 108, 116]⟩, .int .i64 0]) [.string ⟨#[115, 112, 111, 105, 108, 116]⟩, .int .i64 0] [.string xx.f0, .int .i64 xx.f1] (fun q => oki q ∧ some q ≠ (Value.slice A1 y.f1.length c1).ownBlock) (fun _ => False) rfl rfl rfl rfl (by kernel_rfl) ?_ HR.out (by omega) (by omega) rfl HCC.out (by show 0 + 2 ≤ 2; omega) (k50_mkM _ _ _ ⟨⟨#[115, 112, 111, 105, 108, 116]⟩, 0⟩) (fun _ hk => hk.elim) HB.out ?_; (intro qq hq; simp only [List.mem_cons, List.not_mem_nil, or_false] at hq; rcases hq with rfl | rfl <;> rfl); intro w4 hR4 hb4 hg4; have HX4 := zaa.mk (zbm HX.out hg4 (fun e => by injection e with e; have h1 := (HOK.out g2 HG2.out).1; omega)); have HR4 := zaa.mk hR4; have HB4 := zaa.mk hb4; have HH4 := zaa.mk (Kd.H_grown HH.out hg4 (fun q hq => by injection hq with hq; rw [← hq]; exact HG2.out)); have HGL4 := zaa.mk (Nat.lt_of_lt_of_le HGL2.out hg4.size); clear hR4 hb4 hg4))
     go_roundw
     case rel => exact ⟨j + 1, _, by omega, by go_num, ⟨by rw [List.length_set]; exact HNL.out⟩, HR4, HH4, HX4, HB4, HGL4⟩
     case measure => simp [intOf]; omega
    ·have hge : decide ((j : Int) < (m : Int)) = false := decide_eq_false (by omega)
     go_wp2_with (first | (refine Kd.H_store k40 (w0 := w0) w0.heap.size rfl rfl 40 (.tmp 42) (.tmp 41) rfl 40 (o' := i * 6) (i : Int) 0 q ⟨99, [], [], ⟨#[]⟩, 0, 0⟩ (.agg #[.int .i64 99, .slice none 0 0, .slice none 0 0, .string ⟨#[]⟩, .int .i64 0, .int .i64 0]) [.int .i64 99, .slice none 0 0, .slice none 0 0, .string ⟨#[]⟩, .int .i64 0, .int .i64 0] [.int .i64 y.f0, .slice A1 y.f1.length c1, .slice A2 m c2, .string y.f3, .int .i64 y.f4, .int .i64 y.f5] (fun q => q < w.heap.size) oki (fun _ => False) rfl rfl rfl rfl (by kernel_rfl) ?_ HH.out (by omega) (by omega) (by show 0 + 6 ≤ 6; omega) (k40_mkM _ _ _ ⟨99, [], [], ⟨#[]⟩, 0, 0⟩ (Kd.R_nil _ _ _ _ _) (Kd.R_nil _ _ _ _ _)) (fun _ hk => hk.elim) HB.out ?_; (intro qq hq; simp only [List.mem_cons, List.not_mem_nil, or_false] at hq; rcases hq with rfl | rfl | rfl | rfl | rfl | rfl <;> rfl); intro w4 hS4 hb4 hg4; have HX4 := zaa.mk (zbm HX.out hg4 (fun e => by have := HGN.out; injection e with e; omega)); have HS4 := zaa.mk hS4; have HB4 := zaa.mk hb4; clear hS4 hb4 hg4))
     go_roundw
     case rel => exact ⟨i + 1, _, by omega, by go_num, ⟨by rw [List.length_set]; exact HL.out⟩, ⟨fun jj hjj => by rw [Int.toNat_natCast, List.getElem?_set_ne (by omega)]; exact HQ.out jj (by omega)⟩, HS4, HX4, HB4⟩
     case measure => simp [intOf]; omega
  ·have hge : decide ((i : Int) < (n : Int)) = false := decide_eq_false (by omega)
   go_wp2
   go_end0
   exact ⟨rfl, HB.out⟩
end Go.Proofs.YtjghephnjkffcaaGreat.PAll
