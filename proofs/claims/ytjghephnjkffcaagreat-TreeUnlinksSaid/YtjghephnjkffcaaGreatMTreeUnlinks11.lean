/- Parts of one proof, merged by a program of this repo: walks over the given program and plain facts. -/
import Derived.Test.YtjghephnjkffcaaGreatMTreeUnlinks5
import Derived.Test.YtjghephnjkffcaaGreatMTreeUnlinks8
import Derived.Test.YtjghephnjkffcaaGreatMTreeUnlinks10
import Derived.Test.YtjghephnjkffcaaGreatMTreeUnlinks7
import Derived.Test.YtjghephnjkffcaaGreatMTreeUnlinks4
import Derived.Test.YtjghephnjkffcaaGreatMTreeUnlinks9
import Derived.Deep.DrawnRows
import Derived.Deep.RegionHeld3
import Derived.Test.YtjghephnjkffcaaGreatMTreeUnlinks2
import Derived.WalkSpells
import Derived.Shelf.Spec.SlicesInsertGrow
namespace Go.Proofs.YtjghephnjkffcaaGreat.PAll
open Go.RowKit Go.Proofs.YtjghephnjkffcaaGreatW.PrintWords Go.Proofs.YtjghephnjkffcaaGreatW.PrintLast Go.Proofs.YtjghephnjkffcaaGreatW.PrintMore
attribute [local go_sem] zb9 zb7 zcu zct zbN zbM zb8 zb6
set_option linter.unusedVariables false
set_option linter.unusedSimpArgs false
theorem nd_set (l : List S40) (n : Nat) (x : S40) (hn : n < l.length) (j : Nat) : (zah (l.set n x) (j : Int)) = if n = j then x else (zah l (j : Int)) := by
 show (l.set n x).getD (j : Int).toNat _ = if n = j then _ else l.getD (j : Int).toNat _
 rw [Int.toNat_natCast, List.getD_eq_getElem?_getD, List.getD_eq_getElem?_getD, List.getElem?_set]
 by_cases e : n = j
 ·subst e; simp [hn]
 ·rw [if_neg e, if_neg e]
theorem cnt_set (l : List S40) : ∀ (n : Nat) (x : S40) (hn : n < l.length) (i : Nat), cnt (l.set n x) i + cntN (zah l (n : Int)).f2 i = cnt l i + cntN x.f2 i := by
 induction l with
 | nil => intro n x hn; exact absurd hn (Nat.not_lt_zero _)
 | cons a l ih =>
  intro n x hn i
  cases n with
  | zero =>
   rw [zce _ _ hn]
   unfold cnt
   rw [List.set_cons_zero, List.map_cons, List.map_cons, List.sum_cons, List.sum_cons]
   show _ + cntN a.f2 i = _
   omega
  | succ n =>
   have h1 := ih n x (by simpa using hn) i
   rw [zce _ _ hn]
   rw [zce _ _ (by simpa using hn)] at h1
   unfold cnt at h1 ⊢
   rw [List.set_cons_succ, List.map_cons, List.map_cons, List.sum_cons, List.sum_cons, List.getElem_cons_succ]
   omega
theorem cnt_zero {l : List S40} {i : Nat} : cnt l i = 0 ↔ ∀ j, j < l.length → ∀ x ∈ (zah l (j : Int)).f2, x.f1 ≠ (i : Int) := by
 unfold cnt
 rw [List.sum_eq_zero_iff_forall_eq_nat]
 constructor
 ·intro h j hj x hx e
  rw [zce l j hj] at hx
  have h1 := h _ (List.mem_map.2 ⟨_, List.getElem_mem hj, rfl⟩)
  have h2 := cntN_pos.2 ⟨x, hx, e⟩
  omega
 ·intro h c hc
  obtain ⟨x, hx, rfl⟩ := List.mem_map.1 hc
  obtain ⟨j, hj, rfl⟩ := List.getElem_of_mem hx
  by_cases q : cntN l[j].f2 i = 0
  ·exact q
  ·obtain ⟨y, hy, e⟩ := cntN_pos.1 (Nat.pos_of_ne_zero q)
   exact absurd e (h j hj y (by rw [zce l j hj]; exact hy))
theorem cnt_le (l : List S40) (i : Nat) (h : ∀ j, j < l.length → (zah l (j : Int)).f2.length ≤ 64) : cnt l i ≤ 64 * l.length := by
 have key : ∀ l : List S40, (∀ x ∈ l, x.f2.length ≤ 64) → cnt l i ≤ 64 * l.length := by
  intro l
  induction l with
  | nil => intro _; exact Nat.le_refl _
  | cons a l ih =>
   intro h
   have h1 := ih (fun x hx => h x (List.mem_cons_of_mem _ hx))
   have h2 : cntN a.f2 i ≤ 64 := Nat.le_trans (List.countP_le_length ..) (h a (List.mem_cons_self ..))
   unfold cnt at h1 ⊢
   rw [List.map_cons, List.sum_cons, List.length_cons]; omega
 exact key l fun x hx => by
  obtain ⟨j, hj, rfl⟩ := List.getElem_of_mem hx
  rw [← zce l j hj]; exact h j hj
theorem nameP_size {s : ByteArray} (h : nameP s = 0) : s.size ≤ 64 := by
 unfold nameP at h
 split at h
 ·cases h
 ·split at h
  ·cases h
  ·omega
theorem nodeP_fits {x : S40} (h : zci x) : FitsX x := by
 rcases h with h | h | h | h
 ·rw [h.2]; exact ⟨⟨by decide, by decide⟩, fun z hz => (by cases hz), by decide⟩
 ·obtain ⟨_, _, h1, h2, h3⟩ := h
  refine ⟨⟨by omega, by rw [h2]; decide⟩, fun z hz => (by rw [h2] at hz; cases hz), by rw [h3]; decide⟩
 ·obtain ⟨_, _, h1, h2, h3, h4⟩ := h
  refine ⟨⟨by rw [h3]; decide, by omega⟩, fun z hz => ?_, by rw [h4]; decide⟩
  have := nameP_size (((okR_iff _).1 h2).1 z hz)
  omega
 ·obtain ⟨_, _, _, h1, _, h2, h3⟩ := h
  refine ⟨⟨by rw [h2]; decide, by rw [h3]; decide⟩, fun z hz => (by rw [h3] at hz; cases hz), by omega⟩
theorem MayP.fits {l : List S40} (h : MayP l) : Fits l := fun x hx => by
 obtain ⟨j, hj, rfl⟩ := List.getElem_of_mem hx
 have := nodeP_fits (h.nodes j hj)
 rwa [zce l j hj] at this
theorem MayP.ev {l : List S40} (h : MayP l) : Ev (fun k => zaU.f k l) true := may_of h.fits h
structure DirP (x : S40) : Prop where
 time : TimeP x.f5
 len : x.f2.length ≤ 64
 ok : ∀ y ∈ x.f2, nameP y.f0 = 0
 sorted : Sorted x.f2
 data : x.f1 = []
 target : x.f3 = ⟨#[]⟩
theorem zci.dir {x : S40} (h : zci x) (hk : x.f0 = 2) : DirP x := by
 rcases h with h | h | h | h
 ·have := h.1; omega
 ·have := h.1; omega
 ·obtain ⟨_, h1, h2, h3, h4, h5⟩ := h
  have := (okR_iff _).1 h3
  exact ⟨h1, h2, this.1, this.2, h4, h5⟩
 ·have := h.1; omega
theorem DirP.node {x : S40} (h : DirP x) (hk : x.f0 = 2) : zci x := .inr (.inr (.inl ⟨hk, h.time, h.len, (okR_iff _).2 ⟨h.ok, h.sorted⟩, h.data, h.target⟩))
theorem zci.leaf {x : S40} (h : zci x) (hk : x.f0 ≠ 2) : x.f2 = [] := by
 rcases h with h | h | h | h
 ·rw [h.2]; rfl
 ·exact h.2.2.2.1
 ·exact absurd h.1 hk
 ·exact h.2.2.2.2.2.2
theorem MayP.cnt_small {l : List S40} (h : MayP l) (i : Nat) : cnt l i ≤ 4096 := by
 have h1 := cnt_le l i (fun j hj => nodeP_names (h.nodes j hj))
 have := h.len
 omega
theorem zbY.nat {l : List S40} {x : S50} (h : zbY l x) : ∃ m : Nat, x.f1 = (m : Int) ∧ 0 < m ∧ m < l.length ∧ (zah l (m : Int)).f0 ≠ 0 := by
 obtain ⟨h1, h2, h3⟩ := h
 refine ⟨x.f1.toNat, by omega, by omega, by omega, ?_⟩
 rw [show ((x.f1.toNat : Nat) : Int) = x.f1 by omega]; exact h3
theorem nameIn_of {l : List S40} {x : S50} {m : Nat} (e : x.f1 = (m : Int)) (h0 : 0 < m) (h1 : m < l.length) (h2 : (zah l (m : Int)).f0 ≠ 0) : zbY l x := ⟨by omega, by omega, by rw [e]; exact h2⟩
theorem Reach.keep {l l' : List S40} (n : Nat) (hleaf : (zah l (n : Int)).f2 = []) (hlen : l.length ≤ l'.length) (hN : ∀ j, j < l.length → ∀ x ∈ (zah l (j : Int)).f2, zbY l x) (h : ∀ j, j < l.length → ∀ x ∈ (zah l (j : Int)).f2, ∀ m : Nat, x.f1 = (m : Int) → (zah l (m : Int)).f0 = 2 → m ≠ n → (∃ y ∈ (zah l' (j : Int)).f2, y.f1 = x.f1) ∧ (zah l' (m : Int)).f0 = 2) {i : Nat} (hr : Reach l i) : i ≠ n → Reach l' i := by
 induction hr with
 | root => intro _; exact .root
 | @step j x hj hjl hx hd ih =>
  intro hne
  have hjn : j ≠ n := fun e => by subst e; rw [hleaf] at hx; cases hx
  obtain ⟨m, hm, _, _, _⟩ := (hN j hjl x hx).nat
  have hmn : m ≠ n := by rw [hm, Int.toNat_natCast] at hne; exact hne
  rw [hm] at hd
  obtain ⟨⟨y, hy, e⟩, hk⟩ := h j hjl x hx m hm hd hmn
  have := Reach.step (ih hjn) (Nat.lt_of_lt_of_le hjl hlen) hy (by rw [e, hm]; exact hk)
  rwa [e] at this
theorem MayP.edit {l l' : List S40} (h : MayP l) (hlen : l'.length = l.length) (hk : ∀ j, j < l.length → (zah l' (j : Int)).f0 = (zah l (j : Int)).f0) (h0 : (zah l' (((0 : Nat)) : Int)).f4 = 1) (hN : ∀ j, j < l.length → zci (zah l' (j : Int))) (hn : ∀ j, j < l.length → ∀ x ∈ (zah l' (j : Int)).f2, zbY l x) (hL : ∀ i : Nat, 0 < i → i < l.length → (zah l' (i : Int)).f4 = (cnt l' i : Int))
  (hD : ∀ i : Nat, 0 < i → i < l.length → (zah l (i : Int)).f0 = 2 → (zah l' (i : Int)).f4 ≤ 1 ∧ ((zah l' (i : Int)).f4 = 0 → (zah l' (i : Int)).f2 = []) ∧ ((zah l' (i : Int)).f4 = 1 → Reach l' i)) : MayP l' where
 pos := by rw [hlen]; exact h.pos
 len := by rw [hlen]; exact h.len
 last := fun h1 => by
  rw [hlen] at h1 ⊢
  have := h.last h1
  rw [show (l.length : Int) - 1 = ((l.length - 1 : Nat) : Int) by omega] at this ⊢
  rw [hk _ (by omega)]; exact this
 k0 := by rw [hk 0 h.pos]; exact h.k0
 l0 := h0
 nodes := fun j hj => hN j (by omega)
 names := fun j hj x hx => by
  obtain ⟨m, hm, h1, h2, h3⟩ := (hn j (by omega) x hx).nat
  exact nameIn_of hm h1 (by omega) (by rw [hk m h2]; exact h3)
 links := fun i h1 h2 => hL i h1 (by omega)
 dirs := fun i h1 h2 h3 => hD i h1 (by omega) (by rw [← hk i (by omega)]; exact h3)
theorem MayP.reach {l : List S40} (h : MayP l) {d : Nat} (hd : d < l.length) (hk : (zah l (d : Int)).f0 = 2) (h4 : (zah l (d : Int)).f4 ≠ 0) : Reach l d := by
 by_cases e : d = 0
 ·subst e; exact .root
 ·have h1 := h.dirs d (by omega) hd hk
  have h2 := h.links d (by omega) hd
  exact h1.2.2 (by omega)
theorem dir_f (l : List S40) (d : Nat) (hd : d < l.length) : zbF.f l (d : Int) = some ((zah l (d : Int)).f0 == 2) := by
 unfold zbF.f; rw [if_pos (by omega), if_pos (by omega)]
theorem place_f {l : List S40} (d : Nat) (hd : d < l.length) (h : (zah l (d : Int)).f2.length ≤ 64) (s : ByteArray) : za5.f l (d : Int) s = some ((bs (zah l (d : Int)).f2 s : Int), bsAt (zah l (d : Int)).f2 s) := by
 unfold za5.f; rw [if_pos (by omega), if_pos (by omega), if_pos (by omega)]
def findR (l : List S40) (d : Nat) (s : ByteArray) : Int × Int := if (zah l (d : Int)).f0 = 2 then (if nameP s = 0 then (if bsAt (zah l (d : Int)).f2 s = true then ((zav (zah l (d : Int)).f2 ((bs (zah l (d : Int)).f2 s : Nat) : Int)).f1, 0) else (0, 44)) else (0, nameP s)) else (0, 54)
theorem find_ev {l : List S40} (h : MayP l) (d : Nat) (hd : d < l.length) (s : ByteArray) : Ev (fun k => tree_find.f k l (d : Int) s) (findR l d s) := by
 unfold findR
 by_cases hk : (zah l (d : Int)).f0 = 2
 ·rw [if_pos hk]
  have hpl := place_f d hd (nodeP_names (h.nodes d hd)) s
  have hk' : ((zah l (d : Int)).f0 == 2) = true := by simpa using hk
  have hn := tree_name_ev s
  refine Ev.congr (fun k => by unfold tree_find.f; rw [dir_f l d hd, hk', Option.bind_some, if_pos rfl]) (Ev.bind hn ?_)
  by_cases hs : nameP s = 0
  ·rw [if_pos hs]
   by_cases hb : bsAt (zah l (d : Int)).f2 s = true
   ·rw [if_pos hb]
    refine Ev.congr (fun k => ?_) (Ev.now _)
    have hlt : bs (zah l (d : Int)).f2 s < (zah l (d : Int)).f2.length := by
     unfold bsAt at hb; rw [Bool.and_eq_true, decide_eq_true_eq] at hb; exact hb.1
    rw [if_pos hs, hpl, Option.bind_some, if_pos hb, if_pos (by omega), if_pos (by omega), if_pos (by omega), if_pos (by omega)]
   ·rw [if_neg hb]
    refine Ev.congr (fun k => ?_) (Ev.now _)
    rw [if_pos hs, hpl, Option.bind_some, if_neg hb]
  ·rw [if_neg hs]
   refine Ev.congr (fun k => ?_) (Ev.now _)
   rw [if_neg hs]
 ·rw [if_neg hk]
  have hk' : ((zah l (d : Int)).f0 == 2) = false := by simpa using hk
  refine Ev.congr (fun k => ?_) (Ev.now _)
  unfold tree_find.f; rw [dir_f l d hd, hk', Option.bind_some, if_neg (by simp)]
theorem hasB_of (l : List S40) (d : Int) (h : hasB l d = true) : ∃ m : Nat, d = (m : Int) ∧ m < l.length ∧ (zah l (m : Int)).f0 ≠ 0 := by
 unfold hasB at h
 simp only [Bool.and_eq_true, decide_eq_true_eq, bne_iff_ne, ne_eq] at h
 exact ⟨d.toNat, by omega, by omega, by rw [show ((d.toNat : Nat) : Int) = d by omega]; exact h.2.2⟩
theorem findR_zero {l : List S40} (h : MayP l) {d : Nat} (hd : d < l.length) {s : ByteArray} {n : Int} (he : findR l d s = (n, 0)) : (zah l (d : Int)).f0 = 2 ∧ nameP s = 0 ∧ (⟨s, n⟩ : S50) ∈ (zah l (d : Int)).f2 := by
 unfold findR at he
 by_cases hk : (zah l (d : Int)).f0 = 2
 ·rw [if_pos hk] at he
  by_cases hs : nameP s = 0
  ·rw [if_pos hs] at he
   by_cases hb : bsAt (zah l (d : Int)).f2 s = true
   ·have hdp := (h.nodes d hd).dir hk
    obtain ⟨n', hm⟩ := (bsAt_mem hdp.sorted s).1 hb
    rw [if_pos hb, (bs_mem hdp.sorted hm).2] at he
    injection he with h1 _
    exact ⟨hk, hs, h1 ▸ hm⟩
   ·rw [if_neg hb] at he; injection he with _ h2; exact absurd h2 (by decide)
  ·rw [if_neg hs] at he; injection he with _ h2; exact absurd h2 hs
 ·rw [if_neg hk] at he; injection he with _ h2; exact absurd h2 (by decide)
def linkP (k : Nat) (l : List S40) (ns : List Int) (now : Int) : Option Bool :=
 (zby.f k l ns).bind fun m => if m = true then (zbh.f now).bind fun tm => some tm else some false
theorem addN_len (l : List S40) (dir : Int) (s : ByteArray) (node now : Int) : (addN l dir s node now).length = l.length := List.length_set
def zcv (u : List S40) (n d : Int) : List S40 := u.set n.toNat { zah u n with f4 := wrap64 ((zah u n).f4 + d) }
theorem names_anew {w2 : World} {base g c : Nat} {ok : Nat → Prop} {l : List S40} (hS : Kd.S k40 40 w2 base ok (.slice (some ⟨g, 0, none⟩) l.length c) l) (x : Int) (h0 : 0 ≤ x) (h1 : x < (l.length : Int)) (hbase : base ≤ w2.heap.size) (hfresh : ∀ k, w2.heap.size ≤ k → ok k) :
  ∃ (A : Option Addr) (m : Nat), w2.cell? ⟨g, x.toNat * 6 + 2, none⟩ = some (.slice A (zah l x).f2.length m) ∧ (zah l x).f2.length ≤ m ∧ Kd.C k50 w2 A (zah l x).f2.length (zah l x).f2 ∧ ok g ∧ g < w2.heap.size ∧ base ≤ g ∧
   ∀ (w3 : World) (v2' : Value) (ns' : List S50), Below w2.heap.size w2 w3 → k50.R 50 w3 w2.heap.size (fun _ => True) v2' ns' →
    (∀ j, w3.frozen? ⟨g, j, none⟩ = false) ∧ (∃ u, w3.cell? ⟨g, x.toNat * 6 + 2, none⟩ = some u) ∧ (∃ u, (w3.setCell ⟨g, x.toNat * 6 + 2, none⟩ v2').cell? ⟨g, x.toNat * 6 + 5, none⟩ = some u) ∧ (∀ j, (w3.setCell ⟨g, x.toNat * 6 + 2, none⟩ v2').frozen? ⟨g, j, none⟩ = false) ∧
    ∀ now : Int, Kd.S k40 40 ((w3.setCell ⟨g, x.toNat * 6 + 2, none⟩ v2').setCell ⟨g, x.toNat * 6 + 5, none⟩ (.int .i64 now)) base ok (.slice (some ⟨g, 0, none⟩) l.length c) (l.set x.toNat { zah l x with f2 := ns', f5 := now }) := by
 obtain ⟨oki, cs, hcl, hM, hcc, hoki, hH⟩ := Kd.S_lend hS z40 x h0 h1
 obtain ⟨g', cap', e', hbg, hgl, cells, hgb⟩ := Kd.S_form hS (by omega)
 injection e' with e1 _ _
 injection e1 with e1
 injection e1 with e1
 subst e1
 obtain ⟨v1, v2, rfl, hR1, hR2⟩ := k40_openM hM
 obtain ⟨A, m, rfl, hm, hC⟩ := Kd.R_reads hR2
 refine ⟨A, m, hcc 2 _ rfl, hm, hC, (Kd.S_R hS).1 g rfl, hgl, hbg, fun w3 v2' ns' hb hR3 => ?_⟩
 have hgb3 := zan hgb hb
 have hH3 := Kd.H_below (Kd.H_widen hH) hb
 have hR13 : (Kd.int .u8).R 5 w3 base (fun k => oki k ∨ (ok k ∧ w2.heap.size ≤ k)) v1 (zah l x).f1 := Kd.zbv (Kd.R_below hR1 hb) (fun k hk => .inl hk)
 have hR23 : k50.R 50 w3 base (fun k => oki k ∨ (ok k ∧ w2.heap.size ≤ k)) v2' ns' := Kd.R_lower (Kd.zbv (Kd.R_bound hR3) (fun k hk => .inr ⟨hfresh k hk.2.1, hk.2.1⟩)) hbase
 have hseg1 := (Kd.H_seg hH3 h0 h1 (seg := [v2']) (j := 2) (by show 2 + 1 ≤ 6; omega) (fun q hq => by rw [List.mem_singleton.1 hq]; exact (Kd.R_val hR3).2)).1
 have hb1 := blk_set hgb3 (x.toNat * 6 + 2) v2'
 have hcell5 : ∃ u, (w3.setCell ⟨g, x.toNat * 6 + 2, none⟩ v2').cell? ⟨g, x.toNat * 6 + 5, none⟩ = some u := by
  obtain ⟨rows, _, _, _, _, hc5, _⟩ := Kd.H_raw hseg1 h0 h1
  exact ⟨_, hc5 5 _ rfl⟩
 refine ⟨fun j => zaf hgb3 j, ⟨_, (hb.cell hgl).trans (hcc 2 _ rfl)⟩, hcell5, fun j => zaf hb1 j, fun now => ?_⟩
 have hseg2 := (Kd.H_seg hseg1 h0 h1 (seg := [.int .i64 now]) (j := 5) (by show 5 + 1 ≤ 6; omega) (fun q hq => by rw [List.mem_singleton.1 hq]; rfl)).1
 refine Kd.H_back hseg2 (x' := { zah l x with f2 := ns', f5 := now }) (okp := fun k => oki k ∨ (ok k ∧ w2.heap.size ≤ k)) ?_ (fun _ hk => hk)
 exact k40_mkM _ _ _ { zah l x with f2 := ns', f5 := now } (Kd.R_set (Kd.R_set hR13 hgb3 (by decide) _ _) hb1 (by decide) _ _) (Kd.R_set (Kd.R_set hR23 hgb3 (by decide) _ _) hb1 (by decide) _ _)
def putAt (s : ByteArray) : List S50 → Nat
 | [] => 0
 | x :: t => if Op.bytesLess x.f0.toList s.toList = true then putAt s t + 1 else 0
theorem putAt_drop (s : ByteArray) (ns : List S50) (i : Nat) (h : i < ns.length) : putAt s (ns.drop i) = if Op.bytesLess (zav ns i).f0.toList s.toList = true then putAt s (ns.drop (i + 1)) + 1 else 0 := by
 rw [List.drop_eq_getElem_cons h, putAt]
 have e : zav ns (i : Int) = ns[i] := by unfold zav; simp [h]
 rw [e]
theorem nameCut_to (A : Option Addr) (c : Nat) (ns : List S50) (j : Nat) (hj : j ≤ ns.length) (hc : ns.length ≤ c) : ∀ W : World, (Instr.slice 38 (.slice A ns.length c) none (some (.int .i64 (j : Int))) none).run Tryz.prog W = .ok (.slice A j c) W := by
 obtain ⟨i0, hi0, _, hsz, _⟩ := info_parts info50
 have h := cut_to (P := Tryz.prog) 38 50 .i64 Tryz.underlying38 hi0 A ns.length c (j : Int) (by omega) (by omega) hc
 rw [Int.toNat_natCast] at h
 exact h
theorem nameCut_from (A : Option Addr) (c : Nat) (ns : List S50) (j : Nat) (hj : j ≤ ns.length) (hc : ns.length ≤ c) : ∃ (A' : Option Addr) (c' : Nat), (∀ W : World, (Instr.slice 38 (.slice A ns.length c) (some (.int .i64 (j : Int))) none none).run Tryz.prog W = .ok (.slice A' (ns.length - j) c') W) ∧ ∀ W, Kd.C k50 W A ns.length ns → Kd.C k50 W A' (ns.length - j) (ns.drop j) := by
 obtain ⟨i0, hi0, _, hsz, _⟩ := info_parts info50
 have h := cut_from (P := Tryz.prog) 38 50 .i64 Tryz.underlying38 hi0 2 hsz A ns.length c (j : Int) (by omega) (by omega)
 rw [Int.toNat_natCast] at h
 refine ⟨_, c - j, h, fun W hC => ?_⟩
 have h2 := Kd.C_drop hC hj hc
 rwa [List.length_drop] at h2
theorem copy_take (k : Nat) (A : Option Addr) (c : Nat) (ns : List S50) (j : Nat) (hj : j ≤ ns.length) (hc : ns.length ≤ c) (hf : zaC.f k (ns.take j) = some (ns.take j)) (w : World) (h : Kd.C k50 w A ns.length ns) :
  Calls Tryz.prog 90 #[.slice A j c] w fun e w' => ∃ v0_ : Value, e = .returned (v0_) ∧ Kd.R k50 50 w' w.heap.size (fun _ => True) v0_ (ns.take j) ∧ Below w.heap.size w w' := by
 have hl : (ns.take j).length = j := by rw [List.length_take]; omega
 have h2 := zaC.calls k A c (ns.take j) (ns.take j) w (Kd.C_take h hj) (by omega) hf
 rwa [hl] at h2
def putN (l : List S40) (d : Int) (s : ByteArray) (n now : Int) : List S40 :=
 l.set d.toNat { zah l d with f2 := ((zah l d).f2.take (putAt s (zah l d).f2) ++ [⟨s, n⟩]) ++ (zah l d).f2.drop (putAt s (zah l d).f2), f5 := now }
set_option maxHeartbeats 8000000 in
set_option maxRecDepth 100000 in
theorem gangwayref13_put.calls (k : Nat) (W : World) (base g c N : Nat) (ok : Nat → Prop) (l : List S40) (hN : l.length = N) (d : Int) (s : ByteArray) (n now : Int) (hS : Kd.S k40 40 W base ok (.slice (some ⟨g, 0, none⟩) N c) l) (h0 : 0 ≤ d) (h1 : d < (N : Int)) (hn0 : 0 < n) (hn1 : n < (N : Int)) (hfresh : ∀ k, W.heap.size ≤ k → ok k) (hbase : base ≤ W.heap.size) (hl : (zah l d).f2.length ≤ 1000000)
  (hcn : zaC.f k ((zah l d).f2.take (putAt s (zah l d).f2)) = some ((zah l d).f2.take (putAt s (zah l d).f2))) :
  Calls Tryz.prog 65 #[.agg #[.slice (some ⟨g, 0, none⟩) N c], .int .i64 d, .string s, .int .i64 n, .int .i64 now] W fun e w' => e = .returned (.tuple #[]) ∧ Kd.S k40 40 w' base ok (.slice (some ⟨g, 0, none⟩) N c) (zcv (putN l d s n now) n 1) ∧ Below base W w' ∧ (∀ k, k < W.heap.size → ¬ ok k → w'.heap[k]? = W.heap[k]?) := by
 obtain rfl := hN
 have hut := Tryz.underlying24
 have hun := Tryz.underlying40
 have hum := Tryz.underlying50
 obtain ⟨A, m, hc2, hm, hC, hog, hgl, hbg, HK⟩ := names_anew hS d h0 h1 hbase hfresh
 obtain ⟨ns, hns⟩ : ∃ ns, ns = (zah l d).f2 := ⟨_, rfl⟩
 have HSET : zaa (∀ t : List S50, t = (ns.take (putAt s ns) ++ [⟨s, n⟩]) ++ ns.drop (putAt s ns) → l.set d.toNat { zah l d with f2 := t, f5 := now } = putN l d s n now) := ⟨fun t ht => by unfold putN; rw [ht, hns]⟩
 rw [← hns] at hc2 hm hC hcn hl
 have hx2 : (W.alloc (.cells #[.slice (some ⟨g, 0, none⟩) l.length c] 24)).cell? ⟨g, d.toNat * 6 + 2, none⟩ = some (.slice A ns.length m) := (World.cell?_alloc_lt _ _ _ (World.block_lt_of_cell? _ _ hc2)).trans hc2
 have HX := zaa.mk (zbd W (.cells #[.slice (some ⟨g, 0, none⟩) l.length c] 24))
 have HB := zaa.mk (zac (Below.refl W.heap.size W) (.cells #[.slice (some ⟨g, 0, none⟩) l.length c] 24))
 have HCN := zaa.mk (Kd.C_below hC HB.out)
 have HM := zaa.mk hm
 have HKK := zaa.mk HK
 have HCP := zaa.mk hcn
 have HOG := zaa.mk hog
 have HGL := zaa.mk hgl
 have HBG := zaa.mk hbg
 have p0 := eq_true h0
 have p1 := eq_true h1
 have hmax : ns.length ≤ 9223372036854775807 := by omega
 have HN0 : zaa (0 ≤ n) := ⟨by omega⟩
 have HN1 := zaa.mk hn1
 have HLEN : zaa ((putN l d s n now).length = l.length) := ⟨List.length_set⟩
 have hng : decide (n > 0) = true := decide_eq_true hn0
 have q0 := eq_true HN0.out
 have q1 := eq_true hn1
 clear hS hfresh hC hcn HK hc2 hns hog hgl hbg hm
 go_enter Tryz.func65, Tryz.ntmps65
 go_wp2
 go_loop [11] (fun v11 => ∃ i : Nat, i ≤ ns.length ∧ v11 = .int .i64 i ∧ zaa (i + putAt s (ns.drop i) = putAt s ns)) (fun v11 => ns.length - (intOf v11).toNat)
 case atStart => exact ⟨0, Nat.zero_le _, rfl, ⟨by simp⟩⟩
 case round =>
  obtain ⟨i, hi, rfl, HI⟩ := hrel
  by_cases hlt : i < ns.length
  ·have hp := putAt_drop s ns i hlt
   obtain ⟨na, hA, hx0, hx1⟩ := zbR HCN.out (i : Int) (by omega) (by omega)
   subst hA
   rw [Int.toNat_natCast] at hx0
   clear hx1
   by_cases hb : Op.bytesLess (zav ns i).f0.toList s.toList = true
   ·rw [if_pos hb] at hp
    have HP := zaa.mk hp
    clear hp
    go_wp2
    go_round
    case rel => exact ⟨i + 1, by omega, by go_num, ⟨by have := HI.out; have := HP.out; omega⟩⟩
    case measure => simp [intOf]; omega
   ·rw [if_neg hb] at hp
    have hb2 : Op.bytesLess (zav ns i).f0.toList s.toList = false := by simpa using hb
    replace HI := zaa.mk (show i + 0 = putAt s ns by rw [← hp]; exact HI.out)
    clear hp hb
    have HIP : zaa (putAt s ns = i) := ⟨by have := HI.out; omega⟩
    have HCPI : zaa (zaC.f k (ns.take i) = some (ns.take i)) := ⟨by have h := HCP.out; rwa [HIP.out] at h⟩
    have ht1 := nameCut_to (some na) m ns i hi HM.out
    obtain ⟨A', c', hd1, hdc⟩ := nameCut_from (some na) m ns i hi HM.out
    have HDC := zaa.mk hdc
    clear hdc
    go_wp2_with (first | (go_at_call 90; refine (copy_take k (some na) m ns i hi HM.out HCPI.out _ HCN.out).mono ?_; rintro e' w1 ⟨v, rfl, hR, hb⟩; have HR1 := zaa.mk hR; have HB1 := zaa.mk hb; have HX1 := zaa.mk (zan HX.out hb); have hx21 := (hb.cell (World.block_lt_of_cell? _ _ hx2)).trans hx2; have hct1 := (zad HX1.out 0).trans rfl; clear hR hb) | (at_builtin; refine Kd.R_append k50 (w0 := (W.alloc (.cells #[.slice (some ⟨g, 0, none⟩) l.length c] 24))) (W.alloc (.cells #[.slice (some ⟨g, 0, none⟩) l.length c] 24)).heap.size rfl (.tmp 45) (.tmp 49) 38 50 (.agg #[.string ⟨#[]⟩, .int .i64 0]) 24 rfl Tryz.underlying38 info50 rfl (by decide) (by omega) v (ns.take i) ⟨s, n⟩ [.string s, .int .i64 n] (fun _ => True) (fun _ => False) rfl rfl (k50_mkM _ _ _ ⟨s, n⟩) (fun _ hk => hk.elim) (fun _ _ => trivial) HR1.out HB1.out HB1.out.size (by rw [List.length_take]; omega) ?_; intro v1 w2 hr2 hb2 hg2 hat2; have HR2 := zaa.mk hr2; have HB2 := zaa.mk hb2; have HX2 := zaa.mk (zan HX.out hb2); have hx22 := (hb2.cell (World.block_lt_of_cell? _ _ hx2)).trans hx2; have hct2 := (zad HX2.out 0).trans rfl; clear hr2 hb2 hg2 hat2) | (at_builtin; refine Kd.zcy k50 (w0 := (W.alloc (.cells #[.slice (some ⟨g, 0, none⟩) l.length c] 24))) (W.alloc (.cells #[.slice (some ⟨g, 0, none⟩) l.length c] 24)).heap.size rfl (.tmp 52) (.tmp 58) 38 50 (.agg #[.string ⟨#[]⟩, .int .i64 0]) 24 rfl Tryz.underlying38 info50 rfl (by decide) (by omega) v1 (ns.take i ++ [⟨s, n⟩]) (ns.drop i) _ _ _ (fun _ => True) (fun _ => False) rfl rfl HR2.out (Kd.C_below (HDC.out _ HCN.out) HB2.out) (fun _ _ h => h) (fun _ h => h.elim) (fun _ _ => trivial) HB2.out HB2.out.size (by simp only [List.length_append, List.length_take, List.length_drop, List.length_cons, List.length_nil]; omega) ?_; intro v3 w3 hr3 hb3 hg3 hat3; obtain ⟨A3, m3, c3, rfl⟩ := slice_any hr3; obtain ⟨hf3, ⟨u2, hu2⟩, ⟨u5, hu5⟩, hf5, hfin⟩ := HKK.out w3 _ _ (Below.trans HB.out (hb3.mono (by rw [World.size_alloc]; omega))) (Kd.R_lower hr3 (by rw [World.size_alloc]; omega)); have hS5 := hfin now; rw [HSET.out _ (by rw [HIP.out])] at hS5; rw [← HLEN.out] at hS5; obtain ⟨hl4, hfl4, _, _, _, hnew⟩ := links_anew hS5 n HN0.out (by rw [HLEN.out]; exact HN1.out); rw [HLEN.out] at hnew; have HNEW := zaa.mk hnew; have HB3 := zaa.mk hb3; have HX3 := zaa.mk (zaG (zaG (zan HX.out hb3) (p := ⟨g, d.toNat * 6 + 2, none⟩) (by have := HGL.out; show _ ≠ g; omega) (.slice A3 m3 c3)) (p := ⟨g, d.toNat * 6 + 5, none⟩) (by have := HGL.out; show _ ≠ g; omega) (.int .i64 now)); have hct3 := (zad HX3.out 0).trans rfl; clear hr3 hb3 hg3 hat3 hfin hS5 hnew))
    go_end0
    have hbw : Below W.heap.size W w3 := Below.trans HB.out (HB3.out.mono (by rw [World.size_alloc]; omega))
    exact ⟨rfl, HNEW.out _, (((hbw.mono hbase).setCell HBG.out _).setCell HBG.out _).setCell HBG.out _, fun q hq hnq => ((Below.heap_setCell _ _ _ q (fun e => hnq (e ▸ HOG.out))).trans ((Below.heap_setCell _ _ _ q (fun e => hnq (e ▸ HOG.out))).trans (Below.heap_setCell _ _ _ q (fun e => hnq (e ▸ HOG.out))))).trans (hbw.block q hq)⟩
  ·have hge : decide ((i : Int) < (ns.length : Int)) = false := decide_eq_false (by omega)
   replace HI := zaa.mk (show i + 0 = putAt s ns by rw [← HI.out, List.drop_eq_nil_of_le (by omega)]; rfl)
   have HIP : zaa (putAt s ns = i) := ⟨by have := HI.out; omega⟩
   have HCPI : zaa (zaC.f k (ns.take i) = some (ns.take i)) := ⟨by have h := HCP.out; rwa [HIP.out] at h⟩
   have ht1 := nameCut_to A m ns i hi HM.out
   obtain ⟨A', c', hd1, hdc⟩ := nameCut_from A m ns i hi HM.out
   have HDC := zaa.mk hdc
   clear hdc
   go_wp2_with (first | (go_at_call 90; refine (copy_take k A m ns i hi HM.out HCPI.out _ HCN.out).mono ?_; rintro e' w1 ⟨v, rfl, hR, hb⟩; have HR1 := zaa.mk hR; have HB1 := zaa.mk hb; have HX1 := zaa.mk (zan HX.out hb); have hx21 := (hb.cell (World.block_lt_of_cell? _ _ hx2)).trans hx2; have hct1 := (zad HX1.out 0).trans rfl; clear hR hb) | (at_builtin; refine Kd.R_append k50 (w0 := (W.alloc (.cells #[.slice (some ⟨g, 0, none⟩) l.length c] 24))) (W.alloc (.cells #[.slice (some ⟨g, 0, none⟩) l.length c] 24)).heap.size rfl (.tmp 45) (.tmp 49) 38 50 (.agg #[.string ⟨#[]⟩, .int .i64 0]) 24 rfl Tryz.underlying38 info50 rfl (by decide) (by omega) v (ns.take i) ⟨s, n⟩ [.string s, .int .i64 n] (fun _ => True) (fun _ => False) rfl rfl (k50_mkM _ _ _ ⟨s, n⟩) (fun _ hk => hk.elim) (fun _ _ => trivial) HR1.out HB1.out HB1.out.size (by rw [List.length_take]; omega) ?_; intro v1 w2 hr2 hb2 hg2 hat2; have HR2 := zaa.mk hr2; have HB2 := zaa.mk hb2; have HX2 := zaa.mk (zan HX.out hb2); have hx22 := (hb2.cell (World.block_lt_of_cell? _ _ hx2)).trans hx2; have hct2 := (zad HX2.out 0).trans rfl; clear hr2 hb2 hg2 hat2) | (at_builtin; refine Kd.zcy k50 (w0 := (W.alloc (.cells #[.slice (some ⟨g, 0, none⟩) l.length c] 24))) (W.alloc (.cells #[.slice (some ⟨g, 0, none⟩) l.length c] 24)).heap.size rfl (.tmp 52) (.tmp 58) 38 50 (.agg #[.string ⟨#[]⟩, .int .i64 0]) 24 rfl Tryz.underlying38 info50 rfl (by decide) (by omega) v1 (ns.take i ++ [⟨s, n⟩]) (ns.drop i) _ _ _ (fun _ => True) (fun _ => False) rfl rfl HR2.out (Kd.C_below (HDC.out _ HCN.out) HB2.out) (fun _ _ h => h) (fun _ h => h.elim) (fun _ _ => trivial) HB2.out HB2.out.size (by simp only [List.length_append, List.length_take, List.length_drop, List.length_cons, List.length_nil]; omega) ?_; intro v3 w3 hr3 hb3 hg3 hat3; obtain ⟨A3, m3, c3, rfl⟩ := slice_any hr3; obtain ⟨hf3, ⟨u2, hu2⟩, ⟨u5, hu5⟩, hf5, hfin⟩ := HKK.out w3 _ _ (Below.trans HB.out (hb3.mono (by rw [World.size_alloc]; omega))) (Kd.R_lower hr3 (by rw [World.size_alloc]; omega)); have hS5 := hfin now; rw [HSET.out _ (by rw [HIP.out])] at hS5; rw [← HLEN.out] at hS5; obtain ⟨hl4, hfl4, _, _, _, hnew⟩ := links_anew hS5 n HN0.out (by rw [HLEN.out]; exact HN1.out); rw [HLEN.out] at hnew; have HNEW := zaa.mk hnew; have HB3 := zaa.mk hb3; have HX3 := zaa.mk (zaG (zaG (zan HX.out hb3) (p := ⟨g, d.toNat * 6 + 2, none⟩) (by have := HGL.out; show _ ≠ g; omega) (.slice A3 m3 c3)) (p := ⟨g, d.toNat * 6 + 5, none⟩) (by have := HGL.out; show _ ≠ g; omega) (.int .i64 now)); have hct3 := (zad HX3.out 0).trans rfl; clear hr3 hb3 hg3 hat3 hfin hS5 hnew))
   go_end0
   have hbw : Below W.heap.size W w3 := Below.trans HB.out (HB3.out.mono (by rw [World.size_alloc]; omega))
   exact ⟨rfl, HNEW.out _, (((hbw.mono hbase).setCell HBG.out _).setCell HBG.out _).setCell HBG.out _, fun q hq hnq => ((Below.heap_setCell _ _ _ q (fun e => hnq (e ▸ HOG.out))).trans ((Below.heap_setCell _ _ _ q (fun e => hnq (e ▸ HOG.out))).trans (Below.heap_setCell _ _ _ q (fun e => hnq (e ▸ HOG.out))))).trans (hbw.block q hq)⟩
def zaD.f (l0_0 : List (S40)) (a1 : Int) : Option (Bool) := if 0 ≤ a1 then (if a1 < (l0_0.length : Int) then (some (((zah l0_0 a1).f0) == 2)) else (none)) else (none)
set_option maxHeartbeats 8000000 in
set_option maxRecDepth 100000 in
theorem zaD.calls (A0_0 : Option Addr) (c0_0 : Nat) (l0_0 : List (S40)) (a1 : Int) (r : Bool) (w : World) (hr0_0 : Kd.C k40 w A0_0 l0_0.length l0_0) (hc0_0 : l0_0.length ≤ c0_0) (h : zaD.f l0_0 a1 = some r) :
  Calls Tryz.prog 63 #[.agg #[.slice A0_0 l0_0.length c0_0], .int .i64 a1] w fun e w' => e = .returned (.bool r) ∧ Below w.heap.size w w' := by
 have hu24 := Tryz.underlying24
 have HR0_0 := zaa.mk hr0_0
 have HC0_0 := zaa.mk hc0_0
 clear hr0_0 hc0_0
 have HB := zaa.mk (Below.refl w.heap.size w)
 have H : (if 0 ≤ a1 then (if a1 < (l0_0.length : Int) then (some (((zah l0_0 a1).f0) == 2)) else (none)) else (none)) = some r := h
 clear h
 by_cases c3 : 0 ≤ a1
 ·rw [if_pos c3] at H
  have c3b0 : decide (0 ≤ a1) = true := decide_eq_true c3
  clear c3
  by_cases c4 : a1 < (l0_0.length : Int)
  ·rw [if_pos c4] at H
   have c4b0 : decide (a1 < (l0_0.length : Int)) = true := decide_eq_true c4
   clear c4
   obtain rfl := Option.some.inj H
   go_enter Tryz.func63, Tryz.ntmps63
   go_wp2_with (first | ((with_reducible refine zaN (N := 2) rfl ?_); refine zaF ?hg (N := 2) ?hd (cs := #[.slice A0_0 l0_0.length c0_0]) (t := 24) ?hr ?_; (case hd => rfl); (case hg => rfl); (case hr => first | (go_simp; done) | (go_simp; rfl)); intro gb177 hg w5 hbox hb; have n0_ := zaa.mk (zam (by repeat (first | (with_reducible first | exact HB.out | apply zac | apply zab | apply zae) | exact HB.out)) hb); have n1_ := zaa.mk (hbox); have n2_ := zaa.mk ((by rw [hg]; exact (zar (by repeat (first | (with_reducible first | exact HB.out | apply zac | apply zab | apply zae) | exact HB.out))) : w.heap.size ≤ gb177)); have n3_ := zaa.mk ((by rw [hg]; exact (zar (by repeat (first | (with_reducible first | exact HB.out | apply zac | apply zab | apply zae) | exact HB.out))) : w.heap.size ≤ gb177)); clear HB; have HB := n0_; have BK177 := n1_; have GW177 := n2_; have GE177 := n3_; clear n0_ n1_ n2_ n3_; clear hb hbox hg; have hcz6_0 : w5.cell? ⟨gb177, 0, none⟩ = some (.slice A0_0 l0_0.length c0_0) := (zad BK177.out 0).trans rfl; have hfz6_0 := zaf BK177.out 0; have p178 : 0 ≤ (a1 : Int) := of_decide_eq_true (by first | (with_reducible assumption) | assumption); have q178 : a1 < (l0_0.length : Int) := of_decide_eq_true (by first | (with_reducible assumption) | assumption); obtain ⟨ad178, A178_1, c178_1, A178_2, c178_2, e178, hx178_0, hx178_1, hx178_2, hx178_3, hx178_4, hx178_5, hl178_1, hi178_1, hl178_2, hi178_2⟩ := zbe HR0_0.out a1 p178 q178; cases e178; replace hx178_0 := (HB.out.cell (World.block_lt_of_cell? w _ hx178_0)).trans hx178_0; replace hx178_1 := (HB.out.cell (World.block_lt_of_cell? w _ hx178_1)).trans hx178_1; replace hx178_2 := (HB.out.cell (World.block_lt_of_cell? w _ hx178_2)).trans hx178_2; replace hx178_3 := (HB.out.cell (World.block_lt_of_cell? w _ hx178_3)).trans hx178_3; replace hx178_4 := (HB.out.cell (World.block_lt_of_cell? w _ hx178_4)).trans hx178_4; replace hx178_5 := (HB.out.cell (World.block_lt_of_cell? w _ hx178_5)).trans hx178_5; have HR178_1 := zaa.mk hi178_1; have HC178_1 := zaa.mk hl178_1; clear hi178_1 hl178_1; have HR178_2 := zaa.mk hi178_2; have HC178_2 := zaa.mk hl178_2; clear hi178_2 hl178_2; replace p178 := eq_true p178; replace q178 := eq_true q178))
   go_ret
   exact ⟨by first | rfl | (simp [zau, zat] <;> rfl) | (simp [*, zau, zat] <;> rfl), by repeat (first | (with_reducible first | exact HB.out | apply zac | apply zab | apply zae | refine zal ?_ GE177.out) | exact HB.out)⟩
  ·rw [if_neg c4] at H
   exact absurd H (by simp)
 ·rw [if_neg c3] at H
  exact absurd H (by simp)
def zbc.f (k : Nat) (l0_0 : List (S40)) (a1 : Int) (a2 : ByteArray) : Option (Int × Int) := (zaD.f l0_0 a1).bind fun t253 => (if t253 = true then ((zas.f k a2).bind fun t254 => (if t254 = 0 then ((zaE.f k l0_0 a1 a2).bind fun t255 => (if t255 < 0 then (some (0, 44)) else (if 0 ≤ a1 then (if a1 < (l0_0.length : Int) then (if 0 ≤ t255 then (if t255 < (((zah l0_0 a1).f2).length : Int) then (some ((zav ((zah l0_0 a1).f2) t255).f1, 0)) else (none)) else (none)) else (none)) else (none)))) else (some (0, t254)))) else (some (0, 54)))
set_option maxHeartbeats 8000000 in
set_option maxRecDepth 100000 in
theorem zbc.calls (k : Nat) (A0_0 : Option Addr) (c0_0 : Nat) (l0_0 : List (S40)) (a1 : Int) (a2 : ByteArray) (r1 : Int) (r2 : Int) (w : World) (hr0_0 : Kd.C k40 w A0_0 l0_0.length l0_0) (hc0_0 : l0_0.length ≤ c0_0) (h : zbc.f k l0_0 a1 a2 = some (r1, r2)) :
  Calls Tryz.prog 47 #[.agg #[.slice A0_0 l0_0.length c0_0], .int .i64 a1, .string a2] w fun e w' => e = .returned (.tuple #[.int .i64 r1, .int .i64 r2]) ∧ Below w.heap.size w w' := by
 have hu24 := Tryz.underlying24
 have HR0_0 := zaa.mk hr0_0
 have HC0_0 := zaa.mk hc0_0
 clear hr0_0 hc0_0
 have HB := zaa.mk (Below.refl w.heap.size w)
 have H : ((zaD.f l0_0 a1).bind fun t253 => (if t253 = true then ((zas.f k a2).bind fun t254 => (if t254 = 0 then ((zaE.f k l0_0 a1 a2).bind fun t255 => (if t255 < 0 then (some (0, 44)) else (if 0 ≤ a1 then (if a1 < (l0_0.length : Int) then (if 0 ≤ t255 then (if t255 < (((zah l0_0 a1).f2).length : Int) then (some ((zav ((zah l0_0 a1).f2) t255).f1, 0)) else (none)) else (none)) else (none)) else (none)))) else (some (0, t254)))) else (some (0, 54)))) = some (r1, r2) := h
 clear h
 replace H := Option.bind_eq_some_iff.mp H
 obtain ⟨t253, A40, H⟩ := H
 replace H : (if t253 = true then ((zas.f k a2).bind fun t254 => (if t254 = 0 then ((zaE.f k l0_0 a1 a2).bind fun t255 => (if t255 < 0 then (some (0, 44)) else (if 0 ≤ a1 then (if a1 < (l0_0.length : Int) then (if 0 ≤ t255 then (if t255 < (((zah l0_0 a1).f2).length : Int) then (some ((zav ((zah l0_0 a1).f2) t255).f1, 0)) else (none)) else (none)) else (none)) else (none)))) else (some (0, t254)))) else (some (0, 54))) = some (r1, r2) := H
 have A4 := zaa.mk A40
 clear A40
 by_cases c5 : t253 = true
 ·subst c5
  have H1 : ((zas.f k a2).bind fun t254 => (if t254 = 0 then ((zaE.f k l0_0 a1 a2).bind fun t255 => (if t255 < 0 then (some (0, 44)) else (if 0 ≤ a1 then (if a1 < (l0_0.length : Int) then (if 0 ≤ t255 then (if t255 < (((zah l0_0 a1).f2).length : Int) then (some ((zav ((zah l0_0 a1).f2) t255).f1, 0)) else (none)) else (none)) else (none)) else (none)))) else (some (0, t254)))) = some (r1, r2) := by rw [if_pos rfl] at H; exact H
  clear H
  have H := H1
  clear H1
  replace H := Option.bind_eq_some_iff.mp H
  obtain ⟨t254, A60, H⟩ := H
  replace H : (if t254 = 0 then ((zaE.f k l0_0 a1 a2).bind fun t255 => (if t255 < 0 then (some (0, 44)) else (if 0 ≤ a1 then (if a1 < (l0_0.length : Int) then (if 0 ≤ t255 then (if t255 < (((zah l0_0 a1).f2).length : Int) then (some ((zav ((zah l0_0 a1).f2) t255).f1, 0)) else (none)) else (none)) else (none)) else (none)))) else (some (0, t254))) = some (r1, r2) := H
  have A6 := zaa.mk A60
  clear A60
  by_cases c7 : t254 = 0
  ·rw [if_pos c7] at H
   have c7b0 : (t254 == 0) = true := beq_iff_eq.mpr c7
   have c7b1 : (t254 != 0) = false := bne_eq_false_iff_eq.mpr c7
   clear c7
   replace H := Option.bind_eq_some_iff.mp H
   obtain ⟨t255, A80, H⟩ := H
   replace H : (if t255 < 0 then (some (0, 44)) else (if 0 ≤ a1 then (if a1 < (l0_0.length : Int) then (if 0 ≤ t255 then (if t255 < (((zah l0_0 a1).f2).length : Int) then (some ((zav ((zah l0_0 a1).f2) t255).f1, 0)) else (none)) else (none)) else (none)) else (none))) = some (r1, r2) := H
   have A8 := zaa.mk A80
   clear A80
   by_cases c9 : t255 < 0
   ·rw [if_pos c9] at H
    have c9b0 : decide (t255 < 0) = true := decide_eq_true c9
    clear c9
    simp only [Option.some.injEq, Prod.mk.injEq] at H
    obtain ⟨rfl, rfl⟩ := H
    go_enter Tryz.func47, Tryz.ntmps47
    go_wp2_with (first | ((with_reducible refine zaN (N := 3) rfl ?_); refine zaF ?hg (N := 3) ?hd (cs := #[.slice A0_0 l0_0.length c0_0]) (t := 24) ?hr ?_; (case hd => rfl); (case hg => rfl); (case hr => first | (go_simp; done) | (go_simp; rfl)); intro gb252 hg w10 hbox hb; have n0_ := zaa.mk (zam (by repeat (first | (with_reducible first | exact HB.out | apply zac | apply zab | apply zae) | exact HB.out)) hb); have n1_ := zaa.mk (hbox); have n2_ := zaa.mk ((by rw [hg]; exact (zar (by repeat (first | (with_reducible first | exact HB.out | apply zac | apply zab | apply zae) | exact HB.out))) : w.heap.size ≤ gb252)); have n3_ := zaa.mk ((by rw [hg]; exact (zar (by repeat (first | (with_reducible first | exact HB.out | apply zac | apply zab | apply zae) | exact HB.out))) : w.heap.size ≤ gb252)); clear HB; have HB := n0_; have BK252 := n1_; have GW252 := n2_; have GE252 := n3_; clear n0_ n1_ n2_ n3_; clear hb hbox hg; have hcz11_0 : w10.cell? ⟨gb252, 0, none⟩ = some (.slice A0_0 l0_0.length c0_0) := (zad BK252.out 0).trans rfl; have hfz11_0 := zaf BK252.out 0) | ((with_reducible refine zaJ (f := 63) rfl ?_); refine zbo (some 12) rfl rfl Tryz.func63 (by kernel_rfl) rfl #[.agg #[.slice A0_0 l0_0.length c0_0], .int .i64 a1] rfl (by (try simp only [List.map_toArray, List.map_cons, List.map_nil]); first | done | rfl | (simp only [List.length_drop, List.length_take]; rfl)) ?_; (with_reducible refine (zaD.calls _ _ l0_0 a1 true _ ?side1 ?side2 A4.out).mono ?_); (case side1 => repeat (first | exact (Kd.C_below HR0_0.out HB.out) | (with_reducible refine Kd.C_alloc ?_ _) | (with_reducible refine Kd.C_drewN ?_ _) | (with_reducible refine Kd.C_drew ?_))); (case side2 => exact HC0_0.out); rintro e w12 ⟨rfl, hb⟩; refine ⟨_, rfl, ?_⟩; have n0_ := zaa.mk (zan (g := gb252) (o := .cells #[.slice A0_0 l0_0.length c0_0] 24 (0, 0)) (by (with_reducible repeat (first | refine zaj ?_ _ | refine zak ?_ | refine zai ?_ _)); exact BK252.out) hb); have n1_ := zaa.mk (zam (by repeat (first | (with_reducible first | exact HB.out | apply zac | apply zab | apply zae | refine zal ?_ GE252.out) | exact HB.out)) hb); clear BK252; clear HB; have BK252 := n0_; have HB := n1_; clear n0_ n1_; (try clear hb); (try clear hb2); (try clear hk); (try clear hi)) | ((with_reducible refine zaJ (f := 52) rfl ?_); refine zbo (some 15) rfl rfl Tryz.func52 (by kernel_rfl) rfl #[.string a2] rfl (by (try simp only [List.map_toArray, List.map_cons, List.map_nil]); first | done | rfl | (simp only [List.length_drop, List.length_take]; rfl)) ?_; (with_reducible refine (zas.calls k a2 t254 _ A6.out).mono ?_); rintro e w' ⟨rfl, ⟨nd, rfl⟩⟩; refine ⟨_, rfl, ?_⟩; have hcz13_0 : w12.cell? ⟨gb252, 0, none⟩ = some (.slice A0_0 l0_0.length c0_0) := (zad BK252.out 0).trans rfl; have hfz13_0 := zaf BK252.out 0) | ((with_reducible refine zaJ (f := 79) rfl ?_); refine zbo (some 22) rfl rfl Tryz.func79 (by kernel_rfl) rfl #[.agg #[.slice A0_0 l0_0.length c0_0], .int .i64 a1, .string a2] rfl (by (try simp only [List.map_toArray, List.map_cons, List.map_nil]); first | done | rfl | (simp only [List.length_drop, List.length_take]; rfl)) ?_; (with_reducible refine (zaE.calls k _ _ l0_0 a1 a2 t255 _ ?side1 ?side2 A8.out).mono ?_); (case side1 => repeat (first | exact (Kd.C_below HR0_0.out (by repeat (first | (with_reducible first | exact HB.out | apply zac | apply zab | apply zae | refine zal ?_ GE252.out) | exact HB.out))) | (with_reducible refine Kd.C_alloc ?_ _) | (with_reducible refine Kd.C_drewN ?_ _) | (with_reducible refine Kd.C_drew ?_))); (case side2 => exact HC0_0.out); rintro e w14 ⟨rfl, hb⟩; refine ⟨_, rfl, ?_⟩; have n0_ := zaa.mk (zan (g := gb252) (o := .cells #[.slice A0_0 l0_0.length c0_0] 24 (0, 0)) (by (with_reducible repeat (first | refine zaj ?_ _ | refine zak ?_ | refine zai ?_ _)); exact BK252.out) hb); have n1_ := zaa.mk (zam (by repeat (first | (with_reducible first | exact HB.out | apply zac | apply zab | apply zae | refine zal ?_ GE252.out) | exact HB.out)) hb); clear BK252; clear HB; have BK252 := n0_; have HB := n1_; clear n0_ n1_; (try clear hb); (try clear hb2); (try clear hk); (try clear hi)))
    go_ret2
    exact ⟨by first | rfl | (simp [zau, zat] <;> rfl) | (simp [*, zau, zat] <;> rfl), by repeat (first | (with_reducible first | exact HB.out | apply zac | apply zab | apply zae | refine zal ?_ GE252.out) | exact HB.out)⟩
   ·rw [if_neg c9] at H
    have c9b0 : decide (t255 < 0) = false := decide_eq_false c9
    clear c9
    by_cases c15 : 0 ≤ a1
    ·rw [if_pos c15] at H
     have c15b0 : decide (0 ≤ a1) = true := decide_eq_true c15
     clear c15
     by_cases c16 : a1 < (l0_0.length : Int)
     ·rw [if_pos c16] at H
      have c16b0 : decide (a1 < (l0_0.length : Int)) = true := decide_eq_true c16
      clear c16
      by_cases c17 : 0 ≤ t255
      ·rw [if_pos c17] at H
       have c17b0 : decide (0 ≤ t255) = true := decide_eq_true c17
       clear c17
       by_cases c18 : t255 < (((zah l0_0 a1).f2).length : Int)
       ·rw [if_pos c18] at H
        have c18b0 : decide (t255 < (((zah l0_0 a1).f2).length : Int)) = true := decide_eq_true c18
        clear c18
        simp only [Option.some.injEq, Prod.mk.injEq] at H
        obtain ⟨rfl, rfl⟩ := H
        go_enter Tryz.func47, Tryz.ntmps47
        go_wp2_with (first | ((with_reducible refine zaN (N := 3) rfl ?_); refine zaF ?hg (N := 3) ?hd (cs := #[.slice A0_0 l0_0.length c0_0]) (t := 24) ?hr ?_; (case hd => rfl); (case hg => rfl); (case hr => first | (go_simp; done) | (go_simp; rfl)); intro gb252 hg w19 hbox hb; have n0_ := zaa.mk (zam (by repeat (first | (with_reducible first | exact HB.out | apply zac | apply zab | apply zae) | exact HB.out)) hb); have n1_ := zaa.mk (hbox); have n2_ := zaa.mk ((by rw [hg]; exact (zar (by repeat (first | (with_reducible first | exact HB.out | apply zac | apply zab | apply zae) | exact HB.out))) : w.heap.size ≤ gb252)); have n3_ := zaa.mk ((by rw [hg]; exact (zar (by repeat (first | (with_reducible first | exact HB.out | apply zac | apply zab | apply zae) | exact HB.out))) : w.heap.size ≤ gb252)); clear HB; have HB := n0_; have BK252 := n1_; have GW252 := n2_; have GE252 := n3_; clear n0_ n1_ n2_ n3_; clear hb hbox hg; have hcz20_0 : w19.cell? ⟨gb252, 0, none⟩ = some (.slice A0_0 l0_0.length c0_0) := (zad BK252.out 0).trans rfl; have hfz20_0 := zaf BK252.out 0) | ((with_reducible refine zaJ (f := 63) rfl ?_); refine zbo (some 12) rfl rfl Tryz.func63 (by kernel_rfl) rfl #[.agg #[.slice A0_0 l0_0.length c0_0], .int .i64 a1] rfl (by (try simp only [List.map_toArray, List.map_cons, List.map_nil]); first | done | rfl | (simp only [List.length_drop, List.length_take]; rfl)) ?_; (with_reducible refine (zaD.calls _ _ l0_0 a1 true _ ?side1 ?side2 A4.out).mono ?_); (case side1 => repeat (first | exact (Kd.C_below HR0_0.out HB.out) | (with_reducible refine Kd.C_alloc ?_ _) | (with_reducible refine Kd.C_drewN ?_ _) | (with_reducible refine Kd.C_drew ?_))); (case side2 => exact HC0_0.out); rintro e w21 ⟨rfl, hb⟩; refine ⟨_, rfl, ?_⟩; have n0_ := zaa.mk (zan (g := gb252) (o := .cells #[.slice A0_0 l0_0.length c0_0] 24 (0, 0)) (by (with_reducible repeat (first | refine zaj ?_ _ | refine zak ?_ | refine zai ?_ _)); exact BK252.out) hb); have n1_ := zaa.mk (zam (by repeat (first | (with_reducible first | exact HB.out | apply zac | apply zab | apply zae | refine zal ?_ GE252.out) | exact HB.out)) hb); clear BK252; clear HB; have BK252 := n0_; have HB := n1_; clear n0_ n1_; (try clear hb); (try clear hb2); (try clear hk); (try clear hi)) | ((with_reducible refine zaJ (f := 52) rfl ?_); refine zbo (some 15) rfl rfl Tryz.func52 (by kernel_rfl) rfl #[.string a2] rfl (by (try simp only [List.map_toArray, List.map_cons, List.map_nil]); first | done | rfl | (simp only [List.length_drop, List.length_take]; rfl)) ?_; (with_reducible refine (zas.calls k a2 t254 _ A6.out).mono ?_); rintro e w' ⟨rfl, ⟨nd, rfl⟩⟩; refine ⟨_, rfl, ?_⟩; have hcz22_0 : w21.cell? ⟨gb252, 0, none⟩ = some (.slice A0_0 l0_0.length c0_0) := (zad BK252.out 0).trans rfl; have hfz22_0 := zaf BK252.out 0) | ((with_reducible refine zaJ (f := 79) rfl ?_); refine zbo (some 22) rfl rfl Tryz.func79 (by kernel_rfl) rfl #[.agg #[.slice A0_0 l0_0.length c0_0], .int .i64 a1, .string a2] rfl (by (try simp only [List.map_toArray, List.map_cons, List.map_nil]); first | done | rfl | (simp only [List.length_drop, List.length_take]; rfl)) ?_; (with_reducible refine (zaE.calls k _ _ l0_0 a1 a2 t255 _ ?side1 ?side2 A8.out).mono ?_); (case side1 => repeat (first | exact (Kd.C_below HR0_0.out (by repeat (first | (with_reducible first | exact HB.out | apply zac | apply zab | apply zae | refine zal ?_ GE252.out) | exact HB.out))) | (with_reducible refine Kd.C_alloc ?_ _) | (with_reducible refine Kd.C_drewN ?_ _) | (with_reducible refine Kd.C_drew ?_))); (case side2 => exact HC0_0.out); rintro e w23 ⟨rfl, hb⟩; refine ⟨_, rfl, ?_⟩; have n0_ := zaa.mk (zan (g := gb252) (o := .cells #[.slice A0_0 l0_0.length c0_0] 24 (0, 0)) (by (with_reducible repeat (first | refine zaj ?_ _ | refine zak ?_ | refine zai ?_ _)); exact BK252.out) hb); have n1_ := zaa.mk (zam (by repeat (first | (with_reducible first | exact HB.out | apply zac | apply zab | apply zae | refine zal ?_ GE252.out) | exact HB.out)) hb); clear BK252; clear HB; have BK252 := n0_; have HB := n1_; clear n0_ n1_; (try clear hb); (try clear hb2); (try clear hk); (try clear hi); have hcz24_0 : w23.cell? ⟨gb252, 0, none⟩ = some (.slice A0_0 l0_0.length c0_0) := (zad BK252.out 0).trans rfl; have hfz24_0 := zaf BK252.out 0; have p256 : 0 ≤ (a1 : Int) := of_decide_eq_true (by first | (with_reducible assumption) | assumption); have q256 : a1 < (l0_0.length : Int) := of_decide_eq_true (by first | (with_reducible assumption) | assumption); obtain ⟨ad256, A256_1, c256_1, A256_2, c256_2, e256, hx256_0, hx256_1, hx256_2, hx256_3, hx256_4, hx256_5, hl256_1, hi256_1, hl256_2, hi256_2⟩ := zbe HR0_0.out a1 p256 q256; cases e256; replace hx256_0 := (HB.out.cell (World.block_lt_of_cell? w _ hx256_0)).trans hx256_0; replace hx256_1 := (HB.out.cell (World.block_lt_of_cell? w _ hx256_1)).trans hx256_1; replace hx256_2 := (HB.out.cell (World.block_lt_of_cell? w _ hx256_2)).trans hx256_2; replace hx256_3 := (HB.out.cell (World.block_lt_of_cell? w _ hx256_3)).trans hx256_3; replace hx256_4 := (HB.out.cell (World.block_lt_of_cell? w _ hx256_4)).trans hx256_4; replace hx256_5 := (HB.out.cell (World.block_lt_of_cell? w _ hx256_5)).trans hx256_5; have HR256_1 := zaa.mk hi256_1; have HC256_1 := zaa.mk hl256_1; clear hi256_1 hl256_1; have HR256_2 := zaa.mk hi256_2; have HC256_2 := zaa.mk hl256_2; clear hi256_2 hl256_2; replace p256 := eq_true p256; replace q256 := eq_true q256; have p257 : 0 ≤ (t255 : Int) := of_decide_eq_true (by first | (with_reducible assumption) | assumption); have q257 : t255 < (((zah l0_0 a1).f2).length : Int) := of_decide_eq_true (by first | (with_reducible assumption) | assumption); obtain ⟨ad257, e257, hx257_0, hx257_1⟩ := zbR HR256_2.out t255 p257 q257; cases e257; replace hx257_0 := (HB.out.cell (World.block_lt_of_cell? w _ hx257_0)).trans hx257_0; replace hx257_1 := (HB.out.cell (World.block_lt_of_cell? w _ hx257_1)).trans hx257_1; replace p257 := eq_true p257; replace q257 := eq_true q257))
        go_ret2
        exact ⟨by first | rfl | (simp [zau, zat] <;> rfl) | (simp [*, zau, zat] <;> rfl), by repeat (first | (with_reducible first | exact HB.out | apply zac | apply zab | apply zae | refine zal ?_ GE252.out) | exact HB.out)⟩
       ·rw [if_neg c18] at H
        exact absurd H (by simp)
      ·rw [if_neg c17] at H
       exact absurd H (by simp)
     ·rw [if_neg c16] at H
      exact absurd H (by simp)
    ·rw [if_neg c15] at H
     exact absurd H (by simp)
  ·rw [if_neg c7] at H
   have c7b0 : (t254 == 0) = false := beq_eq_false_iff_ne.mpr c7
   have c7b1 : (t254 != 0) = true := bne_iff_ne.mpr c7
   simp only [Option.some.injEq, Prod.mk.injEq] at H
   obtain ⟨rfl, rfl⟩ := H
   go_enter Tryz.func47, Tryz.ntmps47
   go_wp2_with (first | ((with_reducible refine zaN (N := 3) rfl ?_); refine zaF ?hg (N := 3) ?hd (cs := #[.slice A0_0 l0_0.length c0_0]) (t := 24) ?hr ?_; (case hd => rfl); (case hg => rfl); (case hr => first | (go_simp; done) | (go_simp; rfl)); intro gb252 hg w25 hbox hb; have n0_ := zaa.mk (zam (by repeat (first | (with_reducible first | exact HB.out | apply zac | apply zab | apply zae) | exact HB.out)) hb); have n1_ := zaa.mk (hbox); have n2_ := zaa.mk ((by rw [hg]; exact (zar (by repeat (first | (with_reducible first | exact HB.out | apply zac | apply zab | apply zae) | exact HB.out))) : w.heap.size ≤ gb252)); have n3_ := zaa.mk ((by rw [hg]; exact (zar (by repeat (first | (with_reducible first | exact HB.out | apply zac | apply zab | apply zae) | exact HB.out))) : w.heap.size ≤ gb252)); clear HB; have HB := n0_; have BK252 := n1_; have GW252 := n2_; have GE252 := n3_; clear n0_ n1_ n2_ n3_; clear hb hbox hg; have hcz26_0 : w25.cell? ⟨gb252, 0, none⟩ = some (.slice A0_0 l0_0.length c0_0) := (zad BK252.out 0).trans rfl; have hfz26_0 := zaf BK252.out 0) | ((with_reducible refine zaJ (f := 63) rfl ?_); refine zbo (some 12) rfl rfl Tryz.func63 (by kernel_rfl) rfl #[.agg #[.slice A0_0 l0_0.length c0_0], .int .i64 a1] rfl (by (try simp only [List.map_toArray, List.map_cons, List.map_nil]); first | done | rfl | (simp only [List.length_drop, List.length_take]; rfl)) ?_; (with_reducible refine (zaD.calls _ _ l0_0 a1 true _ ?side1 ?side2 A4.out).mono ?_); (case side1 => repeat (first | exact (Kd.C_below HR0_0.out HB.out) | (with_reducible refine Kd.C_alloc ?_ _) | (with_reducible refine Kd.C_drewN ?_ _) | (with_reducible refine Kd.C_drew ?_))); (case side2 => exact HC0_0.out); rintro e w27 ⟨rfl, hb⟩; refine ⟨_, rfl, ?_⟩; have n0_ := zaa.mk (zan (g := gb252) (o := .cells #[.slice A0_0 l0_0.length c0_0] 24 (0, 0)) (by (with_reducible repeat (first | refine zaj ?_ _ | refine zak ?_ | refine zai ?_ _)); exact BK252.out) hb); have n1_ := zaa.mk (zam (by repeat (first | (with_reducible first | exact HB.out | apply zac | apply zab | apply zae | refine zal ?_ GE252.out) | exact HB.out)) hb); clear BK252; clear HB; have BK252 := n0_; have HB := n1_; clear n0_ n1_; (try clear hb); (try clear hb2); (try clear hk); (try clear hi)) | ((with_reducible refine zaJ (f := 52) rfl ?_); refine zbo (some 15) rfl rfl Tryz.func52 (by kernel_rfl) rfl #[.string a2] rfl (by (try simp only [List.map_toArray, List.map_cons, List.map_nil]); first | done | rfl | (simp only [List.length_drop, List.length_take]; rfl)) ?_; (with_reducible refine (zas.calls k a2 t254 _ A6.out).mono ?_); rintro e w' ⟨rfl, ⟨nd, rfl⟩⟩; refine ⟨_, rfl, ?_⟩))
   go_ret2
   exact ⟨by first | rfl | (simp [zau, zat] <;> rfl) | (simp [*, zau, zat] <;> rfl), by repeat (first | (with_reducible first | exact HB.out | apply zac | apply zab | apply zae | refine zal ?_ GE252.out) | exact HB.out)⟩
 ·replace c5 := Bool.eq_false_iff.mpr c5
  subst c5
  have H1 : (some (0, 54)) = some (r1, r2) := by rw [if_neg (show ¬ (false = true) by decide)] at H; exact H
  clear H
  have H := H1
  clear H1
  simp only [Option.some.injEq, Prod.mk.injEq] at H
  obtain ⟨rfl, rfl⟩ := H
  go_enter Tryz.func47, Tryz.ntmps47
  go_wp2_with (first | ((with_reducible refine zaN (N := 3) rfl ?_); refine zaF ?hg (N := 3) ?hd (cs := #[.slice A0_0 l0_0.length c0_0]) (t := 24) ?hr ?_; (case hd => rfl); (case hg => rfl); (case hr => first | (go_simp; done) | (go_simp; rfl)); intro gb252 hg w28 hbox hb; have n0_ := zaa.mk (zam (by repeat (first | (with_reducible first | exact HB.out | apply zac | apply zab | apply zae) | exact HB.out)) hb); have n1_ := zaa.mk (hbox); have n2_ := zaa.mk ((by rw [hg]; exact (zar (by repeat (first | (with_reducible first | exact HB.out | apply zac | apply zab | apply zae) | exact HB.out))) : w.heap.size ≤ gb252)); have n3_ := zaa.mk ((by rw [hg]; exact (zar (by repeat (first | (with_reducible first | exact HB.out | apply zac | apply zab | apply zae) | exact HB.out))) : w.heap.size ≤ gb252)); clear HB; have HB := n0_; have BK252 := n1_; have GW252 := n2_; have GE252 := n3_; clear n0_ n1_ n2_ n3_; clear hb hbox hg; have hcz29_0 : w28.cell? ⟨gb252, 0, none⟩ = some (.slice A0_0 l0_0.length c0_0) := (zad BK252.out 0).trans rfl; have hfz29_0 := zaf BK252.out 0) | ((with_reducible refine zaJ (f := 63) rfl ?_); refine zbo (some 12) rfl rfl Tryz.func63 (by kernel_rfl) rfl #[.agg #[.slice A0_0 l0_0.length c0_0], .int .i64 a1] rfl (by (try simp only [List.map_toArray, List.map_cons, List.map_nil]); first | done | rfl | (simp only [List.length_drop, List.length_take]; rfl)) ?_; (with_reducible refine (zaD.calls _ _ l0_0 a1 false _ ?side1 ?side2 A4.out).mono ?_); (case side1 => repeat (first | exact (Kd.C_below HR0_0.out HB.out) | (with_reducible refine Kd.C_alloc ?_ _) | (with_reducible refine Kd.C_drewN ?_ _) | (with_reducible refine Kd.C_drew ?_))); (case side2 => exact HC0_0.out); rintro e w30 ⟨rfl, hb⟩; refine ⟨_, rfl, ?_⟩; have n0_ := zaa.mk (zan (g := gb252) (o := .cells #[.slice A0_0 l0_0.length c0_0] 24 (0, 0)) (by (with_reducible repeat (first | refine zaj ?_ _ | refine zak ?_ | refine zai ?_ _)); exact BK252.out) hb); have n1_ := zaa.mk (zam (by repeat (first | (with_reducible first | exact HB.out | apply zac | apply zab | apply zae | refine zal ?_ GE252.out) | exact HB.out)) hb); clear BK252; clear HB; have BK252 := n0_; have HB := n1_; clear n0_ n1_; (try clear hb); (try clear hb2); (try clear hk); (try clear hi)))
  go_ret2
  exact ⟨by first | rfl | (simp [zau, zat] <;> rfl) | (simp [*, zau, zat] <;> rfl), by repeat (first | (with_reducible first | exact HB.out | apply zac | apply zab | apply zae | refine zal ?_ GE252.out) | exact HB.out)⟩
theorem sorted_at {ns : List S50} (hs : Sorted ns) {s : ByteArray} {i : Nat} (hi : i < ns.length) (he : ns[i].f0 = s) : bsAt ns s = true ∧ bs ns s = i := by
 have hm : (⟨s, ns[i].f1⟩ : S50) ∈ ns := by rw [← he]; exact List.getElem_mem hi
 refine ⟨(bsAt_mem hs s).2 ⟨_, hm⟩, ?_⟩
 obtain ⟨h1, h2⟩ := bs_mem hs hm
 rw [zbH ns _ h1] at h2
 have hp := List.pairwise_iff_getElem.1 hs
 have hbs : (ns[bs ns s]'h1).f0 = s := by rw [h2]
 rcases Nat.lt_trichotomy (bs ns s) i with q | q | q
 ·have := hp _ _ h1 hi q
  rw [he] at this
  exact absurd (show ltN (ns[bs ns s]'h1) (ns[bs ns s]'h1).f0 by rw [hbs]; exact this) (ltN_irr _)
 ·exact q
 ·have := hp _ _ hi h1 q
  rw [hbs] at this
  exact absurd (show ltN ns[i] ns[i].f0 by rw [he]; exact this) (ltN_irr _)
theorem at_l0 {l : List S40} (d : Nat) (hd : d < l.length) (hs : Sorted (zah l (d : Int)).f2) (hl : (zah l (d : Int)).f2.length ≤ 64) (s : ByteArray) : ∀ (q i : Nat), i + q = (zah l (d : Int)).f2.length → (∀ j (h : j < (zah l (d : Int)).f2.length), j < i → (zah l (d : Int)).f2[j].f0 ≠ s) → Ev (fun k => zaE.l0 k (d : Int) s (i : Int) l) (if bsAt (zah l (d : Int)).f2 s = true then (bs (zah l (d : Int)).f2 s : Int) else -1)
 | 0, i, h, hno => by
  have hb : bsAt (zah l (d : Int)).f2 s ≠ true := fun q => by
   obtain ⟨n, hm⟩ := (bsAt_mem hs s).1 q
   obtain ⟨j, hj, e⟩ := List.getElem_of_mem hm
   exact hno j hj (by omega) (by rw [e])
  rw [if_neg hb]
  exact Ev.step (f := fun _ => some (-1)) (fun k => by
   show zaE.l0 (k + 1) (d : Int) s (i : Int) l = _
   rw [zaE.l0, if_pos (by omega), if_pos (by omega), if_neg (by omega)]) (Ev.now _)
 | q + 1, i, h, hno => by
  have hi : i < (zah l (d : Int)).f2.length := by omega
  by_cases e : (zah l (d : Int)).f2[i].f0 = s
  ·obtain ⟨h1, h2⟩ := sorted_at hs hi e
   rw [if_pos h1, h2]
   exact Ev.step (f := fun _ => some (i : Int)) (fun k => by
    show zaE.l0 (k + 1) (d : Int) s (i : Int) l = _
    rw [zaE.l0, if_pos (by omega), if_pos (by omega), if_pos (by omega), if_pos (by omega), zbH _ i hi, if_pos (by rw [e])]) (Ev.now _)
  ·refine Ev.step (fun k => ?_) (at_l0 d hd hs hl s q (i + 1) (by omega) (fun j hj hji => by
    by_cases e2 : j = i
    ·subst e2; exact e
    ·exact hno j hj (by omega)))
   show zaE.l0 (k + 1) (d : Int) s (i : Int) l = _
   rw [zaE.l0, if_pos (by omega), if_pos (by omega), if_pos (by omega), if_pos (by omega), zbH _ i hi, if_neg (fun q => e (bytes_eq.1 q)), up64 (by omega)]
theorem refFind_ev {l : List S40} (h : MayP l) (d : Nat) (hd : d < l.length) (s : ByteArray) (hss : s.size < 9223372036854775807) : Ev (fun k => zbc.f k l (d : Int) s) (findR l d s) := by
 have hdf : zaD.f l (d : Int) = some ((zah l (d : Int)).f0 == 2) := by
  unfold zaD.f; rw [if_pos (by omega), if_pos (by omega)]
 unfold findR
 by_cases hk : (zah l (d : Int)).f0 = 2
 ·rw [if_pos hk]
  have hk' : ((zah l (d : Int)).f0 == 2) = true := by simpa using hk
  have hdp := (h.nodes d hd).dir hk
  refine Ev.congr (fun k => by unfold zbc.f; rw [hdf, hk', Option.bind_some, if_pos rfl]) (Ev.bind (page_name s hss) ?_)
  by_cases hs : nameP s = 0
  ·rw [if_pos hs]
   have hat := at_l0 d hd hdp.sorted hdp.len s (zah l (d : Int)).f2.length 0 (by omega) (fun j _ h => by omega)
   refine Ev.congr (fun k => if_pos hs) (Ev.bind (show Ev (fun k => zaE.f k l (d : Int) s) _ from hat) ?_)
   by_cases hb : bsAt (zah l (d : Int)).f2 s = true
   ·rw [if_pos hb, if_pos hb]
    have hlt : bs (zah l (d : Int)).f2 s < (zah l (d : Int)).f2.length := by
     unfold bsAt at hb; rw [Bool.and_eq_true, decide_eq_true_eq] at hb; exact hb.1
    refine Ev.congr (fun k => ?_) (Ev.now _)
    rw [if_neg (by omega), if_pos (by omega), if_pos (by omega), if_pos (by omega), if_pos (by omega)]
   ·rw [if_neg hb, if_neg hb]
    exact Ev.congr (fun k => if_pos (by decide)) (Ev.now _)
  ·rw [if_neg hs]
   exact Ev.congr (fun k => if_neg hs) (Ev.now _)
 ·rw [if_neg hk]
  have hk' : ((zah l (d : Int)).f0 == 2) = false := by simpa using hk
  exact Ev.congr (fun k => by unfold zbc.f; rw [hdf, hk', Option.bind_some, if_neg (by simp)]) (Ev.now _)
theorem is_f (l : List S40) (n : Int) : zbq.f l n = some (hasB l n) := by
 unfold zbq.f hasB
 by_cases h1 : n ≥ 0
 ·rw [if_pos h1, decide_eq_true (show 0 ≤ n from h1)]
  by_cases h2 : n < (l.length : Int)
  ·rw [if_pos h2, if_pos h1, decide_eq_true h2]; simp
  ·rw [if_neg h2, decide_eq_false h2]; simp
 ·rw [if_neg h1, decide_eq_false (show ¬ 0 ≤ n from h1)]; simp
theorem za1 {W : World} {g : Nat} {a : Value} {t : TypeId} (h : W.heap[g]? = some (.cells #[a] t (0, 0))) : W.cell? ⟨g, 0, none⟩ = some a := (zad h 0).trans rfl
theorem drawn_belowL {w w' : World} (h : zaS w w') : Below w.heap.size w w' := by
 obtain ⟨nd, rfl⟩ := h
 exact zab (Below.refl _ _) nd
def entryE (k : Nat) (l : List S40) (d : Int) (s : ByteArray) : Option Int :=
 (zas.f k s).bind fun e => if e = 0 then zbO.f k l d s else some e
def refLinkE (k : Nat) (l : List S40) (n d : Int) (s : ByteArray) : Option Int :=
 (zaD.f l n).bind fun b => if b = true then some 63 else (zaD.f l d).bind fun b2 => if b2 = true then entryE k l d s else some 54
structure PutG (k : Nat) (l : List S40) (d : Int) (s : ByteArray) (n : Int) : Prop where
 d0 : 0 ≤ d
 d1 : d < (l.length : Int)
 n0 : 0 < n
 n1 : n < (l.length : Int)
 len : (zah l d).f2.length ≤ 1000000
 copy : zaC.f k ((zah l d).f2.take (putAt s (zah l d).f2)) = some ((zah l d).f2.take (putAt s (zah l d).f2))
set_option maxHeartbeats 8000000 in
set_option maxRecDepth 100000 in
theorem gangwayref13_Link.no (k : Nat) (A0 : Option Addr) (c0 : Nat) (l : List S40) (n d : Int) (s : ByteArray) (now : Int) (e : Int) (w : World) (hr0 : Kd.C k40 w A0 l.length l) (hc0 : l.length ≤ c0) (hE : refLinkE k l n d s = some e) (hz : e ≠ 0) :
  Calls Tryz.prog 30 #[.agg #[.slice A0 l.length c0], .int .i64 n, .int .i64 d, .string s, .int .i64 now] w fun e' w' => e' = .returned (.tuple #[.agg #[.slice A0 l.length c0], .int .i64 e]) ∧ Below w.heap.size w w' := by
 have HR0 := zaa.mk hr0
 have HC0 := zaa.mk hc0
 have hut := Tryz.underlying24
 have HB := zaa.mk (zac (zac (Below.refl w.heap.size w) (.cells #[.slice A0 l.length c0] 24)) (.cells #[.slice none 0 0] 24))
 have HT := zaa.mk (zai (zbd w (.cells #[.slice A0 l.length c0] 24)) (.cells #[.slice none 0 0] 24))
 have HV := zaa.mk (zbd (w.alloc (.cells #[.slice A0 l.length c0] 24)) (.cells #[.slice none 0 0] 24))
 rw [World.size_alloc] at HV
 clear hr0 hc0
 unfold refLinkE at hE
 obtain ⟨b, hb1, hE⟩ := Option.bind_eq_some_iff.mp hE
 have HD1 := zaa.mk hb1
 clear hb1
 cases b with
 | true =>
  have h63 := Option.some.inj hE
  subst h63
  clear hE
  have ht0 := za1 HT.out
  have hv0 := za1 HV.out
  have hvf := zaf HV.out 0
  go_enter Tryz.func30, Tryz.ntmps30
  go_wp2_with (first | fail)
  refine (zaD.calls A0 c0 l n true _ (Kd.C_below HR0.out HB.out) HC0.out HD1.out).mono ?_
  rintro e' w1 ⟨rfl, hb⟩
  clear ht0 hv0 hvf
  replace HT := zaa.mk (zan (by repeat (first | exact HT.out | apply zaj | apply zai | apply zak)) hb)
  replace HV := zaa.mk (zan (by repeat (first | exact HV.out | apply zaj | apply zai | apply zak)) hb)
  replace HB := zaa.mk (zam (by repeat (first | exact HB.out | apply zac | apply zab | apply zae | apply zay)) hb)
  clear hb
  have ht0 := za1 HT.out
  have hv0 := za1 HV.out
  have hvf := zaf HV.out 0
  go_wp2_with fail
  refine bodyPost_ret (zbp rfl _ _ (w.heap.size + 1) 24 #[.slice A0 l.length c0] (0, 0) _ rfl (zaR HV.out 0 _ rfl) Tryz.underlying24 rfl (by kernel_rfl)) rfl ?_
  have hbz := HB.out.setCell (p := ⟨w.heap.size + 1, 0, none⟩) (by show _ ≤ _ + 1; omega) (.slice A0 l.length c0)
  exact ⟨rfl, hbz⟩
 | false =>
  obtain ⟨b2, hb2, hE⟩ := Option.bind_eq_some_iff.mp (show (zaD.f l d).bind _ = some e from hE)
  have HD2 := zaa.mk hb2
  clear hb2
  cases b2 with
  | false =>
   have h63 := Option.some.inj hE
   subst h63
   clear hE
   have ht0 := za1 HT.out
   have hv0 := za1 HV.out
   have hvf := zaf HV.out 0
   go_enter Tryz.func30, Tryz.ntmps30
   go_wp2_with (first | fail)
   refine (zaD.calls A0 c0 l n false _ (Kd.C_below HR0.out HB.out) HC0.out HD1.out).mono ?_
   rintro e' w1 ⟨rfl, hb⟩
   clear ht0 hv0 hvf
   replace HT := zaa.mk (zan (by repeat (first | exact HT.out | apply zaj | apply zai | apply zak)) hb)
   replace HV := zaa.mk (zan (by repeat (first | exact HV.out | apply zaj | apply zai | apply zak)) hb)
   replace HB := zaa.mk (zam (by repeat (first | exact HB.out | apply zac | apply zab | apply zae | apply zay)) hb)
   clear hb
   have ht0 := za1 HT.out
   have hv0 := za1 HV.out
   have hvf := zaf HV.out 0
   go_wp2_with (first | fail)
   refine (zaD.calls A0 c0 l d false _ (Kd.C_below HR0.out HB.out) HC0.out HD2.out).mono ?_
   rintro e' w2 ⟨rfl, hb⟩
   clear ht0 hv0 hvf
   replace HT := zaa.mk (zan (by repeat (first | exact HT.out | apply zaj | apply zai | apply zak)) hb)
   replace HV := zaa.mk (zan (by repeat (first | exact HV.out | apply zaj | apply zai | apply zak)) hb)
   replace HB := zaa.mk (zam (by repeat (first | exact HB.out | apply zac | apply zab | apply zae | apply zay)) hb)
   clear hb
   have ht0 := za1 HT.out
   have hv0 := za1 HV.out
   have hvf := zaf HV.out 0
   go_wp2_with fail
   refine bodyPost_ret (zbp rfl _ _ (w.heap.size + 1) 24 #[.slice A0 l.length c0] (0, 0) _ rfl (zaR HV.out 0 _ rfl) Tryz.underlying24 rfl (by kernel_rfl)) rfl ?_
   have hbz := HB.out.setCell (p := ⟨w.heap.size + 1, 0, none⟩) (by show _ ≤ _ + 1; omega) (.slice A0 l.length c0)
   exact ⟨rfl, hbz⟩
  | true =>
   obtain ⟨e1, hn1, hE⟩ := Option.bind_eq_some_iff.mp (show entryE k l d s = some e from hE)
   have HNM := zaa.mk hn1
   clear hn1
   by_cases z : e1 = 0
   ·rw [if_pos z] at hE
    subst z
    have HEN := zaa.mk hE
    clear hE
    have Z2 : (e != 0) = true := by simpa using hz
    have ht0 := za1 HT.out
    have hv0 := za1 HV.out
    have hvf := zaf HV.out 0
    go_enter Tryz.func30, Tryz.ntmps30
    go_wp2_with (first | fail)
    refine (zaD.calls A0 c0 l n false _ (Kd.C_below HR0.out HB.out) HC0.out HD1.out).mono ?_
    rintro e' w1 ⟨rfl, hb⟩
    clear ht0 hv0 hvf
    replace HT := zaa.mk (zan (by repeat (first | exact HT.out | apply zaj | apply zai | apply zak)) hb)
    replace HV := zaa.mk (zan (by repeat (first | exact HV.out | apply zaj | apply zai | apply zak)) hb)
    replace HB := zaa.mk (zam (by repeat (first | exact HB.out | apply zac | apply zab | apply zae | apply zay)) hb)
    clear hb
    have ht0 := za1 HT.out
    have hv0 := za1 HV.out
    have hvf := zaf HV.out 0
    go_wp2_with (first | fail)
    refine (zaD.calls A0 c0 l d true _ (Kd.C_below HR0.out HB.out) HC0.out HD2.out).mono ?_
    rintro e' w2 ⟨rfl, hb⟩
    clear ht0 hv0 hvf
    replace HT := zaa.mk (zan (by repeat (first | exact HT.out | apply zaj | apply zai | apply zak)) hb)
    replace HV := zaa.mk (zan (by repeat (first | exact HV.out | apply zaj | apply zai | apply zak)) hb)
    replace HB := zaa.mk (zam (by repeat (first | exact HB.out | apply zac | apply zab | apply zae | apply zay)) hb)
    clear hb
    have ht0 := za1 HT.out
    have hv0 := za1 HV.out
    have hvf := zaf HV.out 0
    go_wp2_with fail
    refine (zas.calls k s 0 _ HNM.out).mono ?_
    rintro e' w3 ⟨rfl, hd⟩
    have hb := drawn_belowL hd
    clear hd
    clear ht0 hv0 hvf
    replace HT := zaa.mk (zan (by repeat (first | exact HT.out | apply zaj | apply zai | apply zak)) hb)
    replace HV := zaa.mk (zan (by repeat (first | exact HV.out | apply zaj | apply zai | apply zak)) hb)
    replace HB := zaa.mk (zam (by repeat (first | exact HB.out | apply zac | apply zab | apply zae | apply zay)) hb)
    clear hb
    have ht0 := za1 HT.out
    have hv0 := za1 HV.out
    have hvf := zaf HV.out 0
    go_wp2_with (first | fail)
    refine (zbO.calls k A0 c0 l d s e _ (Kd.C_below HR0.out HB.out) HC0.out HEN.out).mono ?_
    rintro e' w4 ⟨rfl, hb⟩
    clear ht0 hv0 hvf
    replace HT := zaa.mk (zan (by repeat (first | exact HT.out | apply zaj | apply zai | apply zak)) hb)
    replace HV := zaa.mk (zan (by repeat (first | exact HV.out | apply zaj | apply zai | apply zak)) hb)
    replace HB := zaa.mk (zam (by repeat (first | exact HB.out | apply zac | apply zab | apply zae | apply zay)) hb)
    clear hb
    have ht0 := za1 HT.out
    have hv0 := za1 HV.out
    have hvf := zaf HV.out 0
    go_wp2_with fail
    refine bodyPost_ret (zbp rfl _ _ (w.heap.size + 1) 24 #[.slice A0 l.length c0] (0, 0) _ rfl (zaR HV.out 0 _ rfl) Tryz.underlying24 rfl (by kernel_rfl)) rfl ?_
    have hbz := HB.out.setCell (p := ⟨w.heap.size + 1, 0, none⟩) (by show _ ≤ _ + 1; omega) (.slice A0 l.length c0)
    exact ⟨rfl, hbz⟩
   ·rw [if_neg z] at hE
    obtain rfl := Option.some.inj hE
    clear hE
    have Z1 : (e1 == 0) = false := by simpa using z
    have Z2 : (e1 != 0) = true := by simpa using z
    have ht0 := za1 HT.out
    have hv0 := za1 HV.out
    have hvf := zaf HV.out 0
    go_enter Tryz.func30, Tryz.ntmps30
    go_wp2_with (first | fail)
    refine (zaD.calls A0 c0 l n false _ (Kd.C_below HR0.out HB.out) HC0.out HD1.out).mono ?_
    rintro e' w1 ⟨rfl, hb⟩
    clear ht0 hv0 hvf
    replace HT := zaa.mk (zan (by repeat (first | exact HT.out | apply zaj | apply zai | apply zak)) hb)
    replace HV := zaa.mk (zan (by repeat (first | exact HV.out | apply zaj | apply zai | apply zak)) hb)
    replace HB := zaa.mk (zam (by repeat (first | exact HB.out | apply zac | apply zab | apply zae | apply zay)) hb)
    clear hb
    have ht0 := za1 HT.out
    have hv0 := za1 HV.out
    have hvf := zaf HV.out 0
    go_wp2_with (first | fail)
    refine (zaD.calls A0 c0 l d true _ (Kd.C_below HR0.out HB.out) HC0.out HD2.out).mono ?_
    rintro e' w2 ⟨rfl, hb⟩
    clear ht0 hv0 hvf
    replace HT := zaa.mk (zan (by repeat (first | exact HT.out | apply zaj | apply zai | apply zak)) hb)
    replace HV := zaa.mk (zan (by repeat (first | exact HV.out | apply zaj | apply zai | apply zak)) hb)
    replace HB := zaa.mk (zam (by repeat (first | exact HB.out | apply zac | apply zab | apply zae | apply zay)) hb)
    clear hb
    have ht0 := za1 HT.out
    have hv0 := za1 HV.out
    have hvf := zaf HV.out 0
    go_wp2_with fail
    refine (zas.calls k s e1 _ HNM.out).mono ?_
    rintro e' w3 ⟨rfl, hd⟩
    have hb := drawn_belowL hd
    clear hd
    clear ht0 hv0 hvf
    replace HT := zaa.mk (zan (by repeat (first | exact HT.out | apply zaj | apply zai | apply zak)) hb)
    replace HV := zaa.mk (zan (by repeat (first | exact HV.out | apply zaj | apply zai | apply zak)) hb)
    replace HB := zaa.mk (zam (by repeat (first | exact HB.out | apply zac | apply zab | apply zae | apply zay)) hb)
    clear hb
    have ht0 := za1 HT.out
    have hv0 := za1 HV.out
    have hvf := zaf HV.out 0
    go_wp2_with fail
    refine bodyPost_ret (zbp rfl _ _ (w.heap.size + 1) 24 #[.slice A0 l.length c0] (0, 0) _ rfl (zaR HV.out 0 _ rfl) Tryz.underlying24 rfl (by kernel_rfl)) rfl ?_
    have hbz := HB.out.setCell (p := ⟨w.heap.size + 1, 0, none⟩) (by show _ ≤ _ + 1; omega) (.slice A0 l.length c0)
    exact ⟨rfl, hbz⟩
set_option maxHeartbeats 8000000 in
set_option maxRecDepth 100000 in
theorem gangwayref13_Link.ok (k : Nat) (A0 : Option Addr) (c0 : Nat) (l : List S40) (n d : Int) (s : ByteArray) (now : Int) (r : List S40) (w : World) (hr0 : Kd.C k40 w A0 l.length l) (hc0 : l.length ≤ c0) (hE : refLinkE k l n d s = some 0) (hcp : za4.f k l = some l) (hg : PutG k l d s n) (hr : r = zcv (putN l d s n now) n 1) :
  Calls Tryz.prog 30 #[.agg #[.slice A0 l.length c0], .int .i64 n, .int .i64 d, .string s, .int .i64 now] w fun e' w' => ∃ (A : Option Addr) (c : Nat), e' = .returned (.tuple #[.agg #[.slice A r.length c], .int .i64 0]) ∧ Kd.S k40 40 w' w.heap.size (fun _ => True) (.slice A r.length c) r ∧ Below w.heap.size w w' := by
 have HR0 := zaa.mk hr0
 have HC0 := zaa.mk hc0
 have hut := Tryz.underlying24
 have HB := zaa.mk (zac (zac (Below.refl w.heap.size w) (.cells #[.slice A0 l.length c0] 24)) (.cells #[.slice none 0 0] 24))
 have HT := zaa.mk (zai (zbd w (.cells #[.slice A0 l.length c0] 24)) (.cells #[.slice none 0 0] 24))
 have HV := zaa.mk (zbd (w.alloc (.cells #[.slice A0 l.length c0] 24)) (.cells #[.slice none 0 0] 24))
 rw [World.size_alloc] at HV
 clear hr0 hc0
 unfold refLinkE at hE
 obtain ⟨b, hb1, hE⟩ := Option.bind_eq_some_iff.mp hE
 have HD1 := zaa.mk hb1
 clear hb1
 cases b with
 | true => exact absurd (Option.some.inj (show some (63 : Int) = some 0 from hE)) (by decide)
 | false =>
  rw [if_neg (by decide)] at hE
  obtain ⟨b2, hb2, hE⟩ := Option.bind_eq_some_iff.mp hE
  have HD2 := zaa.mk hb2
  clear hb2
  cases b2 with
  | false => rw [if_neg (by decide)] at hE; exact absurd (Option.some.inj hE) (by decide)
  | true =>
   rw [if_pos rfl] at hE
   unfold entryE at hE
   obtain ⟨e1, hn1, hE⟩ := Option.bind_eq_some_iff.mp hE
   have HNM := zaa.mk hn1
   clear hn1
   by_cases z : e1 = 0
   ·rw [if_pos z] at hE
    subst z
    have HEN := zaa.mk hE
    clear hE
    have HCP := zaa.mk hcp
    have HG := zaa.mk hg
    have hlr : r.length = l.length := by rw [hr]; unfold zcv putN; rw [List.length_set, List.length_set]
    rw [hlr]
    have HRR := zaa.mk hr
    clear hcp hg hr hlr
    have ht0 := za1 HT.out
    have hv0 := za1 HV.out
    have hvf := zaf HV.out 0
    go_enter Tryz.func30, Tryz.ntmps30
    go_wp2_with (first | fail)
    refine (zaD.calls A0 c0 l n false _ (Kd.C_below HR0.out HB.out) HC0.out HD1.out).mono ?_
    rintro e' w1 ⟨rfl, hb⟩
    clear ht0 hv0 hvf
    replace HT := zaa.mk (zan (by repeat (first | exact HT.out | apply zaj | apply zai | apply zak)) hb)
    replace HV := zaa.mk (zan (by repeat (first | exact HV.out | apply zaj | apply zai | apply zak)) hb)
    replace HB := zaa.mk (zam (by repeat (first | exact HB.out | apply zac | apply zab | apply zae | apply zay)) hb)
    clear hb
    have ht0 := za1 HT.out
    have hv0 := za1 HV.out
    have hvf := zaf HV.out 0
    go_wp2_with (first | fail)
    refine (zaD.calls A0 c0 l d true _ (Kd.C_below HR0.out HB.out) HC0.out HD2.out).mono ?_
    rintro e' w2 ⟨rfl, hb⟩
    clear ht0 hv0 hvf
    replace HT := zaa.mk (zan (by repeat (first | exact HT.out | apply zaj | apply zai | apply zak)) hb)
    replace HV := zaa.mk (zan (by repeat (first | exact HV.out | apply zaj | apply zai | apply zak)) hb)
    replace HB := zaa.mk (zam (by repeat (first | exact HB.out | apply zac | apply zab | apply zae | apply zay)) hb)
    clear hb
    have ht0 := za1 HT.out
    have hv0 := za1 HV.out
    have hvf := zaf HV.out 0
    go_wp2_with fail
    refine (zas.calls k s 0 _ HNM.out).mono ?_
    rintro e' w3 ⟨rfl, hd⟩
    have hb := drawn_belowL hd
    clear hd
    clear ht0 hv0 hvf
    replace HT := zaa.mk (zan (by repeat (first | exact HT.out | apply zaj | apply zai | apply zak)) hb)
    replace HV := zaa.mk (zan (by repeat (first | exact HV.out | apply zaj | apply zai | apply zak)) hb)
    replace HB := zaa.mk (zam (by repeat (first | exact HB.out | apply zac | apply zab | apply zae | apply zay)) hb)
    clear hb
    have ht0 := za1 HT.out
    have hv0 := za1 HV.out
    have hvf := zaf HV.out 0
    go_wp2_with (first | fail)
    refine (zbO.calls k A0 c0 l d s 0 _ (Kd.C_below HR0.out HB.out) HC0.out HEN.out).mono ?_
    rintro e' w4 ⟨rfl, hb⟩
    clear ht0 hv0 hvf
    replace HT := zaa.mk (zan (by repeat (first | exact HT.out | apply zaj | apply zai | apply zak)) hb)
    replace HV := zaa.mk (zan (by repeat (first | exact HV.out | apply zaj | apply zai | apply zak)) hb)
    replace HB := zaa.mk (zam (by repeat (first | exact HB.out | apply zac | apply zab | apply zae | apply zay)) hb)
    clear hb
    have ht0 := za1 HT.out
    have hv0 := za1 HV.out
    have hvf := zaf HV.out 0
    go_wp2_with fail
    refine (za4.calls k A0 c0 l l _ (Kd.C_below HR0.out HB.out) HC0.out HCP.out).mono ?_
    rintro e' w5 ⟨v, rfl, hS, hb⟩
    obtain ⟨g, cu, rfl, hgN, hgl, _⟩ := Kd.S_form hS (by have := HG.out.d1; have := HG.out.d0; omega)
    have HS := zaa.mk (Kd.zbB (Kd.zbr (ok' := fun q => q ≠ w.heap.size ∧ q ≠ w.heap.size + 1 ∧ q < w5.heap.size) (Kd.S_bound hS) (fun q hq => ⟨by have := zaP HT.out; have := hq.2.1; omega, by have := zaP HV.out; have := hq.2.1; omega, hq.2.2.1⟩)) HB.out.size)
    clear hS hgN hgl
    clear ht0 hv0 hvf
    replace HT := zaa.mk (zan (by repeat (first | exact HT.out | apply zaj | apply zai | apply zak)) hb)
    replace HV := zaa.mk (zan (by repeat (first | exact HV.out | apply zaj | apply zai | apply zak)) hb)
    replace HB := zaa.mk (zam (by repeat (first | exact HB.out | apply zac | apply zab | apply zae | apply zay)) hb)
    clear hb
    have HLT : zaa (w.heap.size < w5.heap.size ∧ w.heap.size + 1 < w5.heap.size) := ⟨zaP HT.out, zaP HV.out⟩
    go_upto_region 11 with fail
    replace HT := zaa.mk (zai HT.out (.cells #[.slice (some ⟨g, 0, none⟩) l.length cu] 24))
    replace HV := zaa.mk (zai HV.out (.cells #[.slice (some ⟨g, 0, none⟩) l.length cu] 24))
    replace HB := zaa.mk (zac HB.out (.cells #[.slice (some ⟨g, 0, none⟩) l.length cu] 24))
    replace HS := zaa.mk (Kd.za9 HS.out (zac (Below.refl _ _) (.cells #[.slice (some ⟨g, 0, none⟩) l.length cu] 24)))
    have HU := zaa.mk (zbd w5 (.cells #[.slice (some ⟨g, 0, none⟩) l.length cu] 24))
    have hgt : w.heap.size < w5.heap.size ∧ w.heap.size + 1 < w5.heap.size := HLT.out
    obtain ⟨g6, hg6⟩ : ∃ g6, g6 = w5.heap.size := ⟨_, rfl⟩
    rw [← hg6] at HU HS hgt ⊢
    clear hg6 HLT
    have ht0 := za1 HT.out
    have hv0 := za1 HV.out
    have hvf := zaf HV.out 0
    have hu0 := za1 HU.out
    have huf := zaf HU.out 0
    go_wp2_with fail
    refine (gangwayref13_put.calls k _ w.heap.size g cu l.length (fun q => q ≠ w.heap.size ∧ q ≠ w.heap.size + 1 ∧ q ≠ g6) l rfl d s n now (Kd.zbr HS.out (fun q hq => ⟨hq.1, hq.2.1, by omega⟩)) HG.out.d0 HG.out.d1 HG.out.n0 HG.out.n1 (fun q hq => ⟨by have := zaP HT.out; omega, by have := zaP HV.out; omega, by have := zaP HU.out; omega⟩) HB.out.size HG.out.len HG.out.copy).mono ?_
    rintro e' w7 ⟨rfl, hS7, hb7, ho7⟩
    clear ht0 hv0 hvf hu0 huf
    have HT7 := zaa.mk ((ho7 w.heap.size (zaP HT.out) (by simp)).trans HT.out)
    have HV7 := zaa.mk ((ho7 (w.heap.size + 1) (zaP HV.out) (by simp)).trans HV.out)
    have HU7 := zaa.mk ((ho7 g6 (zaP HU.out) (by simp)).trans HU.out)
    have HB7 := zaa.mk (HB.out.trans hb7)
    have HS7 := zaa.mk hS7
    clear ho7 hb7 hS7
    have hu7 := za1 HU7.out
    have hv7 := za1 HV7.out
    have hvf7 := zaf HV7.out 0
    go_wp2_with fail
    refine bodyPost_ret (zbp rfl _ _ (w.heap.size + 1) 24 #[.slice (some ⟨g, 0, none⟩) l.length cu] (0, 0) _ rfl (zaR HV7.out 0 _ rfl) Tryz.underlying24 rfl (by kernel_rfl)) rfl ?_
    have hs := Kd.S_set HS7.out HV7.out (by decide) 0 (.slice (some ⟨g, 0, none⟩) l.length cu)
    rw [← HRR.out] at hs
    have hlr : r.length = l.length := by rw [HRR.out]; unfold zcv putN; rw [List.length_set, List.length_set]
    exact ⟨_, _, rfl, Kd.zbr hs (fun _ _ => trivial), HB7.out.setCell (p := ⟨w.heap.size + 1, 0, none⟩) (by show _ ≤ _ + 1; omega) _⟩
   ·rw [if_neg z] at hE
    exact absurd (Option.some.inj hE) z
def zaW.l0 : Nat → List Int → Int → Option (Unit)
 | 0, _, _ => none
 | k + 1, x0, x2 => if x2 < (x0.length : Int) then (if 0 ≤ x2 then (zaW.l0 k (x0.set (x2 : Int).toNat (Go.bits .xor .u8 (rd x0 x2) 85)) (wrap64 (x2 + 1))) else (none)) else (if x0.length < 140737488355328 then (some ()) else (none))
def zaW.f (k : Nat) (l0 : List Int) : Option (Unit) := zaW.l0 k l0 0
set_option maxHeartbeats 8000000 in
set_option maxRecDepth 100000 in
theorem zaW.calls (k : Nat) (P0_ : Nat → Prop) (u9000_ : Value) (l0 : List Int) (w0 w : World) (hB : Below w0.heap.size w0 w) (ho0 : Kd.R (Kd.int .u8) 5 w w0.heap.size P0_ u9000_ l0) (h : zaW.f k l0 = some ()) :
  Calls Tryz.prog 41 #[u9000_] w fun e w' => e = .returned (.tuple #[]) ∧ Below w0.heap.size w0 w' ∧ Kept w w' (fun k_ => P0_ k_) := by
 have HO0 := zaa.mk (show Kd.R (Kd.int .u8) 5 w w0.heap.size (fun k_ => (P0_ k_ ∨ w.heap.size ≤ k_)) u9000_ l0 from Kd.zbv ho0 (fun k_ hk => (.inl hk)))
 have HK := zaa.mk (Kept.refl w (fun k_ => P0_ k_))
 have HW0 := zaa.mk hB.size
 have HB := zaa.mk hB
 clear hB
 have H : (zaW.l0 k l0 0) = some () := h
 clear h
 have H' := zaa.mk H
 clear H
 go_enter Tryz.func41, Tryz.ntmps41
 go_wp2
 go_loopg [2] k (fun kq v2 w' => ∃ (x0_1 : List Int) (x2_1 : Int), v2 = .int .i64 x2_1 ∧ zaa (zaW.l0 kq x0_1 x2_1 = some ()) ∧ zaa (kq ≤ k) ∧ zaa (Kd.R (Kd.int .u8) 5 w' w0.heap.size (fun k_ => (P0_ k_ ∨ w.heap.size ≤ k_)) u9000_ x0_1) ∧ zaa (Kept w w' (fun k_ => P0_ k_)) ∧ zaa (Below w0.heap.size w0 w'))
 case atStart => exact ⟨(l0), (0), (by first | rfl | (simp; done) | (simp [*]; done)), H', ⟨Nat.le_refl _⟩, ⟨by (with_reducible repeat (first | apply Kd.zbC | apply Kd.zbJ | apply Kd.zb2)); exact HO0.out⟩, ⟨by repeat (first | (with_reducible first | exact HK.out | apply Kept.alloc | apply Kept.drewN | apply Kept.drew) | exact HK.out)⟩, ⟨by repeat (first | (with_reducible first | exact HB.out | apply zac | apply zab | apply zae) | exact HB.out)⟩⟩
 case round =>
  clear H'
  obtain ⟨x0_1, x2_1, rfl, HA, HK1, HO_0, HK, HB⟩ := hrel
  cases gk with
  | zero => exact absurd HA.out (by simp [zaW.l0])
  | succ k1 =>
   have H := HA.out
   clear HA
   simp only [zaW.l0] at H
   by_cases c2 : x2_1 < (x0_1.length : Int)
   ·rw [if_pos c2] at H
    have c2b0 : decide (x2_1 < (x0_1.length : Int)) = true := decide_eq_true c2
    clear c2
    by_cases c3 : 0 ≤ x2_1
    ·rw [if_pos c3] at H
     have c3b0 : decide (0 ≤ x2_1) = true := decide_eq_true c3
     clear c3
     obtain ⟨y320, hy320⟩ : ∃ y_ : List Int, y_ = (x0_1.set (x2_1 : Int).toNat (Go.bits .xor .u8 (rd x0_1 x2_1) 85)) := ⟨_, rfl⟩
     replace H : (zaW.l0 k1 y320 (wrap64 (x2_1 + 1))) = some () := by first | (rw [hy320]; with_reducible exact H) | (have H2_ := (Option.bind_some _ _).symm.trans H; rw [hy320]; with_reducible exact H2_) | (have H2_ := (Option.bind_some _ _).symm.trans H; with_reducible exact H2_) | with_reducible exact H | (rw [hy320]; exact H) | exact H
     have Ny320 := zaa.mk hy320
     clear hy320
     have H' := zaa.mk H
     clear H
     obtain ⟨Ao5, co5, eo5⟩ := Kd.zbW HO_0.out
     subst eo5
     have p319 : 0 ≤ (x2_1 : Int) := of_decide_eq_true (by first | (with_reducible assumption) | assumption)
     have q319 : x2_1 < (x0_1.length : Int) := of_decide_eq_true (by first | (with_reducible assumption) | assumption)
     obtain ⟨ad319, e319, hx319_0⟩ := Kd.at_int (Kd.zb0 HO_0.out).2.2 x2_1 p319 q319
     cases e319
     replace p319 := eq_true p319
     replace q319 := eq_true q319
     have p4 : 0 ≤ (x2_1 : Int) := of_decide_eq_true (by first | (with_reducible assumption) | assumption)
     have q4 : (x2_1 : Int) < ((x0_1.length : Int) : Int) := of_decide_eq_true (by first | (with_reducible assumption) | assumption)
     obtain ⟨go4, co4, eo4, gb4, gl4, cl4, HG4⟩ := Kd.R_form HO_0.out (by omega)
     (first | cases eo4 | (injection eo4 with ea_ en_ ec_; (first | subst ea_ | (injection ea_ with ea_; subst ea_)); subst ec_; clear en_))
     have GB4 := zaa.mk gb4
     have GG4 := zaa.mk HG4
     clear gb4 gl4 HG4
     have HMgo4 := zaa.mk (show (P0_ go4 ∨ w.heap.size ≤ go4) from (HO_0.out.1 _ rfl))
     (first | simp only [add_plain] at hx319_0 | skip)
     obtain ⟨hx4_0, hf4_0⟩ := Kd.R_celln 0 HO_0.out (x2_1 : Int) p4 q4
     replace p4 := eq_true p4
     replace q4 := eq_true q4
     have HP6 := Kd.R_putg HO_0.out (x2_1 : Int) (Go.bits .xor .u8 (rd x0_1 x2_1) 85)
     go_wp2_with (first | ((with_reducible refine gate_store (t := 5) (p := 16) rfl ?_); refine store_event (t := 5) (p := 16) (v := ?vo_w7) (w1 := (wr.setCell ⟨go4, (x2_1 : Int).toNat, none⟩ (.int .u8 (Go.bits .xor .u8 (rd x0_1 x2_1) 85)))) ?hg ?ho ?hn ?hr ?_; (case ho => rfl); (case hg => rfl); (case hn => rfl); (case hr => first | (go_simp; done) | (go_simp; rfl)); intro w7 hw; have hg : wr.grownBy w7 (some go4) := (by rw [hw]; exact HP6.2); have hp_ : Kd.R (Kd.int .u8) 5 w7 w0.heap.size (fun k_ => (P0_ k_ ∨ w.heap.size ≤ k_)) (.slice (some ⟨go4, 0, none⟩) x0_1.length co5) y320 := (by rw [hw, Ny320.out]; exact HP6.1); clear HP6; have n0_ := zaa.mk (hp_); have n1_ := zaa.mk ((by rw [hw]; exact zal (HB.out) GB4.out : Below w0.heap.size w0 w7)); have n2_ := zaa.mk (Kept.of_grown (S := (fun k_ => P0_ k_)) hg (by repeat (first | (with_reducible first | exact HK.out | apply Kept.alloc | apply Kept.drewN | apply Kept.drew) | exact HK.out)) (fun k_ e_ => (HO_0.out.1 k_ e_))); clear HO_0; clear HB; clear HK; have HO_0 := n0_; have HB := n1_; have HK := n2_; clear n0_ n1_ n2_; clear hg hw hp_))
     go_roundg k1
     case measure => have := HK1.out; omega
     case rel => exact ⟨(y320), (wrap64 (x2_1 + 1)), (by first | rfl | (simp; done) | (simp [*]; done)), H', ⟨by have := HK1.out; omega⟩, ⟨by (with_reducible repeat (first | apply Kd.zbC | apply Kd.zbJ | apply Kd.zb2)); exact HO_0.out⟩, ⟨by repeat (first | (with_reducible first | exact HK.out | apply Kept.alloc | apply Kept.drewN | apply Kept.drew) | exact HK.out)⟩, ⟨by repeat (first | (with_reducible first | exact HB.out | apply zac | apply zab | apply zae) | exact HB.out)⟩⟩
    ·rw [if_neg c3] at H
     exact absurd H (by simp)
   ·rw [if_neg c2] at H
    have c2b0 : decide (x2_1 < (x0_1.length : Int)) = false := decide_eq_false c2
    clear c2
    by_cases c8 : x0_1.length < 140737488355328
    ·rw [if_pos c8] at H
     have LMc8 := zaa.mk c8
     clear c8
     obtain ⟨y321, hy321⟩ : ∃ y_ : List Int, y_ = (x0_1 ++ [5]) := ⟨_, rfl⟩
     replace H : (some ()) = some () := by first | (rw [hy321]; with_reducible exact H) | (have H2_ := (Option.bind_some _ _).symm.trans H; rw [hy321]; with_reducible exact H2_) | (have H2_ := (Option.bind_some _ _).symm.trans H; with_reducible exact H2_) | with_reducible exact H | (rw [hy321]; exact H) | exact H
     have Ny321 := zaa.mk hy321
     clear hy321
     obtain ⟨Ao9, co9, eo9⟩ := Kd.zbW HO_0.out
     subst eo9
     go_wp2_with (first | ((with_reducible refine zcg (b := .append) (xs := #[.tmp 17, .tmp 18]) rfl ?_); at_builtin; refine Kd.R_append (Kd.int .u8) (w0 := w0) w0.heap.size rfl (.tmp 17) (.tmp 18) 37 5 (.int .u8 0) 1 rfl Tryz.underlying37 info5 rfl (by decide) (by omega) (.slice Ao9 x0_1.length co9) x0_1 5 [.int .u8 5] (fun k_ => (P0_ k_ ∨ w.heap.size ≤ k_)) (fun _ => False) rfl rfl ?aP (fun _ hk => hk.elim) ?aF ?aO ?aB ?aS ?aL ?_; (case aP => exact rfl); (case aB => exact (by repeat (first | (with_reducible first | exact HB.out | apply zac | apply zab | apply zae) | exact HB.out))); (case aF => exact (fun k_ hk => (.inr (Nat.le_trans (by first | exact HK.out.1 | exact (show Kept w _ (fun k_ => P0_ k_) from by repeat (first | (with_reducible first | exact HK.out | apply Kept.alloc | apply Kept.drewN | apply Kept.drew) | exact HK.out)).1) hk)))); (case aO => exact (by (with_reducible repeat (first | apply Kd.zbC | apply Kd.zbJ | apply Kd.zb2)); exact HO_0.out)); (case aS => exact (zar (by repeat (first | (with_reducible first | exact HB.out | apply zac | apply zab | apply zae) | exact HB.out)))); (case aL => have := LMc8.out; omega); intro v322 w10 ho hb hg hat; rw [← Ny321.out] at ho; have n0_ := zaa.mk (hb); have n1_ := zaa.mk (Kept.of_grown (S := (fun k_ => P0_ k_)) hg (by repeat (first | (with_reducible first | exact HK.out | apply Kept.alloc | apply Kept.drewN | apply Kept.drew) | exact HK.out)) (fun k_ e_ => (HO_0.out.1 k_ e_))); have n2_ := zaa.mk (ho); clear HB; clear HK; clear HO_0; have HB := n0_; have HK := n1_; have HO323 := n2_; clear n0_ n1_ n2_; clear ho hb hg hat))
     first | go_end0 | ((try simp only [Exit.inBlock, Exit.then]); refine bodyPost_ret (results_none rfl _ _ _) rfl ?_)
     exact ⟨by first | rfl | (simp [zau, zat] <;> rfl) | (simp [*, zau, zat] <;> rfl), by repeat (first | (with_reducible first | exact HB.out | apply zac | apply zab | apply zae) | exact HB.out), by repeat (first | (with_reducible first | exact HK.out | apply Kept.alloc | apply Kept.drewN | apply Kept.drew) | exact HK.out)⟩
    ·rw [if_neg c8] at H
     exact absurd H (by simp)
theorem nodeP_data {x : S40} (h : zci x) : x.f1.length ≤ 16384 := by
 rcases h with h | h | h | h
 ·rw [h.2]; exact Nat.zero_le _
 ·exact h.2.2.1
 ·rw [h.2.2.2.2.1]; exact Nat.zero_le _
 ·rw [h.2.2.2.2.2.1]; exact Nat.zero_le _
theorem bytes_l0 : ∀ (d : Nat) (x : List Int) (i : Nat), i + d = x.length → x.length < 140737488355328 → Ev (fun k => zaW.l0 k x (i : Int)) ()
 | 0, x, i, h, hl => Ev.step (f := fun _ => some ()) (fun k => by
   show zaW.l0 (k + 1) x (i : Int) = _
   rw [zaW.l0, if_neg (by omega), if_pos hl]) (Ev.now ())
 | d + 1, x, i, h, hl => by
  refine Ev.step (fun k => ?_) (bytes_l0 d (x.set (i : Int).toNat (Go.bits .xor .u8 (rd x (i : Int)) 85)) (i + 1) (by rw [List.length_set]; omega) (by rw [List.length_set]; exact hl))
  show zaW.l0 (k + 1) x (i : Int) = _
  rw [zaW.l0, if_pos (by omega), if_pos (by omega), up64 (by omega)]
theorem bytes_ev (x : List Int) (h : x.length < 140737488355328) : Ev (fun k => zaW.f k x) () := bytes_l0 x.length x 0 (by omega) h
theorem step_append_run2 {P : Program} {ops : Array Oper} {o : Oper} {a : Act} {w : World} {K : Act → World → Prop} {Q : Exit → Act → World → Prop} {E : Prop}
  (hg : o.guard = none) (d x : Operand) (dT sT : TypeId) (hop : o.op = Op.call { callee := Callee.builtin Builtin.append, args := #[d, x], argTypes := #[dT, sT] })
  (v u : Value) (hd : a.eval d = v) (hx : a.eval x = u) {v' : Value} {w' : World} (hr : (Builtin.append_ #[dT, sT] o.type #[v, u]).run P w = .ok v' w') (hK : K (a.put o.dst v') w') :
  if Region.wanted o (yielded ops a.tmps) = true then Oper.wp P o a w K Q else E := by
 have hw : Region.wanted o (yielded ops a.tmps) = true := by simp [Region.wanted, hg]
 rw [if_pos hw]
 unfold Oper.wp
 simp [execOp, hop, resolve, invoke, builtin, hd, hx, hr, Result.andThen]
 exact hK
theorem wpList_clear_run {P : Program} (w : World) {ops : Array Oper} {rest : List Oper} {o : Oper} {a : Act} {Q : Exit → Act → World → Prop} (hgd : o.guard = none) (x : Operand) (t : TypeId)
  (ho : o.op = .call { callee := .builtin .clear, args := #[x], argTypes := #[t] }) (v : Value) (hx : a.eval x = v) {v' : Value} {w' : World}
  (hr : (Builtin.clear_ #[t] o.type #[v]).run P w = .ok v' w') (h : wpList P ops Q rest (a.put o.dst v') w') : wpList P ops Q (o :: rest) a w :=
 wpList_plain hgd fun K hK => by
  unfold Oper.wp execOp
  simp only [ho, resolve, invoke, builtin, Sem.run_bind, Sem.run_pure, Result.andThen_ok, List.map_toArray, List.map_cons, List.map_nil, hx, hr]
  exact hK _ _ h
theorem run_clear_row {P : Program} (w : World) (t ty elem : TypeId) (g o n c : Nat) (cur : Array Value) (tt : TypeId) (i : TypeInfo) (z : Value)
  (hu : P.underlying t = some (.slice elem)) (hi : P.info? elem = some i) (hz : i.zero = some z) (hn : 0 < n)
  (hg : w.heap[g]? = some (.cells cur tt (0, 0))) (hfit : o + n * z.cells.size ≤ cur.size) (h1 : ∀ v ∈ (Builtin.zeroCells z.cells n).toList, v.oneCell' = true) :
  (Builtin.clear_ #[t] ty #[.slice (some ⟨g, o, none⟩) n c]).run P w =
   .ok (.tuple #[]) (w.setRow g (cur.toList.take o ++ (Builtin.zeroCells z.cells n).toList ++ cur.toList.drop (o + (Builtin.zeroCells z.cells n).toList.length)).toArray) := by
 have hst := run_storeCells_at P g o tt (Builtin.zeroCells z.cells n).toList 0 cur w hg (by rw [Array.length_toList, size_zeroCells]; simpa using hfit) h1
 obtain ⟨m, rfl⟩ : ∃ m, n = m + 1 := ⟨n - 1, by omega⟩
 simp [Builtin.clear_, run_underlying hu, zeroValue, typeInfo, hi, hz, hst]
set_option maxHeartbeats 4000000 in
set_option maxRecDepth 100000 in
theorem slices_Delete_api_Name_api_Name.calls (W : World) (base : Nat) (ok : Nat → Prop) (g c k : Nat) (ns : List S50) (hk : k < ns.length) (HO : k50.R 50 W base ok (.slice (some ⟨g, 0, none⟩) ns.length c) ns) :
  Calls Tryz.prog 100 #[.slice (some ⟨g, 0, none⟩) ns.length c, .int .i64 k, .int .i64 ((k : Int) + 1)] W fun e w' => e = .returned (.slice (some ⟨g, 0, none⟩) (ns.length - 1) c) ∧ k50.R 50 w' base ok (.slice (some ⟨g, 0, none⟩) (ns.length - 1) c) (ns.eraseIdx k) ∧ W.grownBy w' (some g) := by
 have hsl := Tryz.underlying38
 obtain ⟨_, hnc, _⟩ := Kd.zb0 HO
 have hcm : c ≤ 9223372036854775807 := by
  obtain ⟨_, inner, ho, _⟩ := HO
  rcases ho.2 with ⟨hv, _⟩ | ⟨g', cap', cur, hv, _, _, _, hm, _⟩
  ·cases hv
  ·injection hv with _ _ h3; subst h3; unfold maxLen at hm; omega
 obtain ⟨i0, hi0, hz0, hzs, hzb⟩ := info_parts info50
 have hRd := Kd.zb2 HO
 obtain ⟨A, hA⟩ : ∃ A : Option Addr, A = if c = k + 1 then some ⟨g, 0, none⟩ else (some (⟨g, 0, none⟩ : Addr)).map (·.add ((k + 1) * 2)) := ⟨_, rfl⟩
 obtain ⟨w1, hr1, hR1, hg1⟩ := Kd.R_delete_run (P := Tryz.prog) k50 base 38 38 50 i0 Tryz.underlying38 hi0 hzs hRd hk hA (c - (k + 1))
 have hlen1 : (ns.eraseIdx k).length = ns.length - 1 := by rw [List.length_eraseIdx]; simp [hk]
 obtain ⟨hok1, inner, ⟨hil, hown⟩, hrep⟩ := hR1
 rcases hown with ⟨hv, _⟩ | ⟨g', cap', cur, hv, hb, hg, hnc', hcm', hcs, ht⟩
 ·cases hv
 injection hv with hv1 hv2 hv3
 injection hv1 with hv1
 injection hv1 with hv1
 clear hv2
 subst hv1; subst hv3
 have hz1 : ∀ v ∈ (Builtin.zeroCells (Value.agg #[.string ⟨#[]⟩, .int .i64 0]).cells 1).toList, v.oneCell' = true := by
  intro v hv
  rw [show (Builtin.zeroCells (Value.agg #[.string ⟨#[]⟩, .int .i64 0]).cells 1).toList = [.string ⟨#[]⟩, .int .i64 0] from by kernel_rfl] at hv
  simp only [List.mem_cons, List.not_mem_nil, or_false] at hv; rcases hv with rfl | rfl <;> rfl
 have hcl := run_clear_row (P := Tryz.prog) w1 38 0 50 g ((ns.length - 1) * 2) 1 (c - (ns.length - 1)) cur 50 i0 _ Tryz.underlying38 hi0 hz0 (by decide) hg (by rw [hcs]; show _ + 1 * 2 ≤ c * 2; omega) hz1
 obtain ⟨w2, hw2⟩ : ∃ w2, w2 = w1.setRow g (cur.toList.take ((ns.length - 1) * 2) ++ (Builtin.zeroCells (Value.agg #[.string ⟨#[]⟩, .int .i64 0]).cells 1).toList ++ cur.toList.drop ((ns.length - 1) * 2 + (Builtin.zeroCells (Value.agg #[.string ⟨#[]⟩, .int .i64 0]).cells 1).toList.length)).toArray := ⟨_, rfl⟩
 rw [← hw2] at hcl
 have hzl : (Builtin.zeroCells (Value.agg #[.string ⟨#[]⟩, .int .i64 0]).cells 1).toList.length = 2 := by kernel_rfl
 have hcur2 : cur.toList.length = c * 2 := by rw [Array.length_toList]; exact hcs
 have hfin : k50.R 50 w2 base ok (.slice (some ⟨g, 0, none⟩) (ns.length - 1) c) (ns.eraseIdx k) ∧ W.grownBy w2 (some g) := by
  constructor
  ·refine ⟨hok1, inner, ⟨hil, .inr ⟨g, c, _, by rw [hlen1], hb, by rw [hw2]; exact setRow_heap w1 _ _ _ _ _ hg, hnc', hcm', ?_, ?_⟩⟩, hrep.imp_ (fun p cc hp => by rw [k50_openM hp]; exact k50_mkM _ _ _ p)⟩
   ·show _ = c * 2
    simp only [List.size_toArray, List.length_append, List.length_take, List.length_drop, hzl, hcur2]; omega
   ·rw [hlen1] at ht ⊢
    show (cur.toList.take _ ++ _ ++ _).take ((ns.length - 1) * 2) = inner
    rw [List.append_assoc, List.take_append_of_le_length (by rw [List.length_take, hcur2]; omega), List.take_take, Nat.min_self]
    exact ht
  ·have hgd := World.grownBy.trans (a := W) (b := W.drew) (row := some g) ⟨rfl, rfl, rfl, Nat.le_refl _, fun _ _ _ => rfl⟩ hg1
   refine hgd.trans ?_
   rw [hw2]
   exact ⟨rfl, rfl, rfl, by simp [World.setRow], fun q _ hq => setRow_other _ _ _ _ (fun e => hq (by rw [e]))⟩
 have HFIN := zaa.mk hfin
 have hz2 : ((k : Int) == (k : Int) + 1) = false := by simp; omega
 have hw1 : IntKind.i64.wrap ((k : Int) + 1) = (k : Int) + 1 := by rw [IntKind.wrap_i64]; omega
 have hb1 : (0 : Int) ≤ (k : Int) + 1 := by omega
 have htn : ((k : Int) + 1).toNat = k + 1 := by omega
 have hb3 : (k : Int) + 1 ≤ (ns.length : Int) := by omega
 have hb3n : k + 1 ≤ ns.length := by omega
 have hb4 : (k : Int) ≤ (k : Int) + 1 := by omega
 have hb5 : (k : Int) ≤ (ns.length : Int) := by omega
 have hb5n : k ≤ ns.length := by omega
 have hb6 : ¬ (c = ns.length - 1) := by omega
 have hb7 : ns.length - 1 ≤ ns.length := by omega
 have hb8 : ns.length - (ns.length - 1) = 1 := by omega
 have hb9 : ns.length ≤ c := hnc
 have hb10 : k ≤ c := by omega
 have hnm : ns.length ≤ 9223372036854775807 := by omega
 have mixed : Tryz.prog.follows .mixedOrders = true := by kernel_rfl
 clear hfin hw2 HO hRd hok1 hrep hil hg ht hcs hcur2 hnc' hcm' hi0 hz0 hzs hzb hg1 hlen1 hz1
 by_cases hck : c = k + 1
 ·rw [if_pos hck] at hA
  subst hA
  subst hck
  have hr2 := hr1
  rw [show k + 1 - (k + 1) = 0 by omega, show ns.length - (k + 1) = 0 by omega] at hr2
  have hzz : k + 1 - (ns.length - 1) = 1 := by omega
  rw [hzz] at hcl
  clear hr1 hnc hcm
  go_enter Tryz.func100, Tryz.ntmps100
  go_wp2
  go_region_law_o (refine step_append_run2 rfl _ _ 38 38 rfl (.slice (some ⟨g, 0, none⟩) k (k + 1)) (.slice (some ⟨g, 0, none⟩) 0 0) (by simp [Act.eval, Act.put]) (by simp [Act.eval, Act.put]) hr2 ?_)
  go_wp2_with (refine wpList_clear_run _ rfl _ 38 rfl _ rfl hcl ?_)
  go_ret
  exact ⟨rfl, HFIN.out⟩
 ·rw [if_neg hck] at hA
  have hA2 : A = some ⟨g, (k + 1) * 2, none⟩ := by rw [hA, Option.map_some, Addr.add_lit, Nat.zero_add]
  subst hA2
  clear hA
  go_enter Tryz.func100, Tryz.ntmps100
  go_wp2
  go_region_law_o (refine step_append_run2 rfl _ _ 38 38 rfl (.slice (some ⟨g, 0, none⟩) k c) (.slice (some ⟨g, (k + 1) * 2, none⟩) (ns.length - (k + 1)) (c - (k + 1))) (by simp [Act.eval, Act.put]) (by simp [Act.eval, Act.put]) hr1 ?_)
  go_wp2_with (refine wpList_clear_run _ rfl _ 38 rfl _ rfl hcl ?_)
  go_ret
  exact ⟨rfl, HFIN.out⟩
def zcd (l : List S40) (dir : Int) (s : ByteArray) (now : Int) : List S40 :=
 l.set dir.toNat { zah l dir with f2 := (zah l dir).f2.eraseIdx (bs (zah l dir).f2 s), f5 := now }
set_option maxHeartbeats 4000000 in
set_option maxRecDepth 100000 in
theorem tree_remove.calls (W : World) (base g c : Nat) (ok : Nat → Prop) (l : List S40) (dir : Int) (s : ByteArray) (now : Int) (hS : Kd.S k40 40 W base ok (.slice (some ⟨g, 0, none⟩) l.length c) l) (h0 : 0 ≤ dir) (h1 : dir < (l.length : Int)) (hbase : base ≤ W.heap.size) (hl : (zah l dir).f2.length ≤ 4611686018427387904) (hbs : bs (zah l dir).f2 s < (zah l dir).f2.length) :
  Calls Tryz.prog 76 #[.agg #[.slice (some ⟨g, 0, none⟩) l.length c], .int .i64 dir, .string s, .int .i64 now] W fun e w' => e = .returned (.tuple #[]) ∧ Kd.S k40 40 w' base ok (.slice (some ⟨g, 0, none⟩) l.length c) (zcd l dir s now) ∧ Below base W w' ∧ (∀ k, k < W.heap.size → ¬ ok k → w'.heap[k]? = W.heap[k]?) := by
 have hut := Tryz.underlying24
 have hun := Tryz.underlying40
 have hum := Tryz.underlying50
 obtain ⟨_, hlc, hC⟩ := Kd.zbt hS
 have hpl : za5.f l dir s = some ((bs (zah l dir).f2 s : Int), bsAt (zah l dir).f2 s) := by
  unfold za5.f
  rw [if_pos h0, if_pos h1, if_pos (by omega)]
 have HS := zaa.mk hS
 have HCC := zaa.mk hC
 have HPL := zaa.mk hpl
 have hmax : (zah l dir).f2.length ≤ 9223372036854775807 := by omega
 have HLC := zaa.mk hlc
 have p0 := eq_true h0
 have p1 := eq_true h1
 clear hS hC hpl hlc
 go_enter Tryz.func76, Tryz.ntmps76
 go_wp2_with (first | (go_at_call 98; refine (za5.calls (some ⟨g, 0, none⟩) c l dir s _ _ _ (Kd.C_below HCC.out (zac (Below.refl _ _) _)) HLC.out HPL.out).mono ?_; rintro e w2 ⟨rfl, hb⟩; have HB := zaa.mk hb; have hct := (zad (zan (zbd W (.cells #[.slice (some ⟨g, 0, none⟩) l.length c] 24)) hb) 0).trans rfl; have HB2 := zaa.mk ((zam (zac (Below.refl W.heap.size W) _) hb).mono hbase); have hb2 := Nat.le_trans hbase HB2.out.size; have HO2 := zaa.mk (fun k (hk : k < W.heap.size) => (zam (zac (Below.refl W.heap.size W) _) hb).block k hk); have hsz2 := (zam (zac (Below.refl W.heap.size W) _) hb).size; obtain ⟨oki, v2, hc2, hR2, hoki, hokg, hgl, hbg, HK⟩ := named_anew (Kd.za9 HS.out (zam (zac (Below.refl _ _) _) hb)) dir h0 h1; have HR2 := zaa.mk hR2; have HOK := zaa.mk hoki; have HOG := zaa.mk hokg; clear hokg; have HKK := zaa.mk HK; clear hb hR2 HK hoki; obtain ⟨g2, c2, rfl, hg2b, hg2l, _⟩ := Kd.R_form HR2.out (by omega)) | (go_at_call 100; refine (slices_Delete_api_Name_api_Name.calls w2 base oki g2 c2 (bs (zah l dir).f2 s) (zah l dir).f2 hbs HR2.out).mono ?_; rintro e w3 ⟨rfl, hR3, hg3⟩; obtain ⟨hf, ⟨u2, hu2⟩, ⟨u5, hu5⟩, hf5, HFin⟩ := HKK.out w3 _ _ hg3 (Kd.zbv hR3 (fun _ hk => .inl hk)); have HF := zaa.mk HFin; have HB3 := zaa.mk (HB2.out.grown hg3 hb2 (Kd.R_base HR2.out)); have HO3 := zaa.mk (fun k (hk : k < W.heap.size) (hn : ¬ ok k) => (hg3.block k (Nat.lt_of_lt_of_le hk hsz2) (fun e => hn (HOK.out k (HR2.out.1 k e.symm)).1)).trans (HO2.out k hk)); clear hR3 hg3 HFin))
 go_end0
 exact ⟨rfl, HF.out now, (HB3.out.setCell hbg _).setCell hbg _, fun k hk hn => ((Below.heap_setCell _ _ _ k (fun e => hn (e ▸ HOG.out))).trans (Below.heap_setCell _ _ _ k (fun e => hn (e ▸ HOG.out)))).trans (HO3.out k hk hn)⟩
mutual
def za0.j0 : Nat → Int → Bool → Bool → List (S40) → Option (Int)
 | 0, _, _, _, _ => none
 | k + 1, x1, x2, x7, x269000 => if x7 = true then (some 54) else (if x2 = true then (if 0 ≤ x1 then (if x1 < (x269000.length : Int) then (za0.j1 k x1 x2 (decide ((((zah x269000 x1).f2).length : Int) > 0)) x269000) else (none)) else (none)) else (za0.j1 k x1 x2 false x269000))
def za0.j1 : Nat → Int → Bool → Bool → List (S40) → Option (Int)
 | 0, _, _, _, _ => none
 | k + 1, x1, x2, x15, x269000 => if x15 = true then (some 55) else (if x2 = true then (some 0) else ((zbF.f x269000 x1).bind fun t271 => (if t271 = true then (some 31) else (some 0))))
end
def za0.f (k : Nat) (l0_0 : List (S40)) (a1 : Int) (a2 : Bool) : Option (Int) := if a2 = true then ((zbF.f l0_0 a1).bind fun t269 => (za0.j0 k a1 a2 (!t269) l0_0)) else (za0.j0 k a1 a2 false l0_0)
set_option maxHeartbeats 8000000 in
set_option maxRecDepth 100000 in
theorem za0.calls (k : Nat) (A0_0 : Option Addr) (c0_0 : Nat) (l0_0 : List (S40)) (a1 : Int) (a2 : Bool) (r : Int) (w : World) (hr0_0 : Kd.C k40 w A0_0 l0_0.length l0_0) (hc0_0 : l0_0.length ≤ c0_0) (h : za0.f k l0_0 a1 a2 = some r) :
  Calls Tryz.prog 75 #[.agg #[.slice A0_0 l0_0.length c0_0], .int .i64 a1, .bool a2] w fun e w' => e = .returned (.int .i64 r) ∧ Below w.heap.size w w' := by
 have hu24 := Tryz.underlying24
 have HR0_0 := zaa.mk hr0_0
 have HC0_0 := zaa.mk hc0_0
 clear hr0_0 hc0_0
 have HB := zaa.mk (Below.refl w.heap.size w)
 have H : (if a2 = true then ((zbF.f l0_0 a1).bind fun t269 => (za0.j0 k a1 a2 (!t269) l0_0)) else (za0.j0 k a1 a2 false l0_0)) = some r := h
 clear h
 have HC4 := zaa.mk H
 clear H
 go_enter Tryz.func75, Tryz.ntmps75
 go_upto_region 1 with (first | ((with_reducible refine zaN (N := 3) rfl ?_); (try (refine zbx (by rfl) ?_; dsimp only)); refine zaF ?hg (N := 3) ?hd (cs := #[.slice A0_0 l0_0.length c0_0]) (t := 24) ?hr ?_; (case hd => rfl); (case hg => rfl); (case hr => first | (go_simp; done) | (go_simp; rfl)); intro gb268 hg w5 hbox hb; have n0_ := zaa.mk (zam (by repeat (first | (with_reducible first | exact HB.out | apply zac | apply zab | apply zae) | exact HB.out)) hb); have n1_ := zaa.mk (hbox); have n2_ := zaa.mk ((by rw [hg]; exact (zar (by repeat (first | (with_reducible first | exact HB.out | apply zac | apply zab | apply zae) | exact HB.out))) : w.heap.size ≤ gb268)); have n3_ := zaa.mk ((by rw [hg]; exact (zar (by repeat (first | (with_reducible first | exact HB.out | apply zac | apply zab | apply zae) | exact HB.out))) : w.heap.size ≤ gb268)); clear HB; have HB := n0_; have BK268 := n1_; have GW268 := n2_; have GE268 := n3_; clear n0_ n1_ n2_ n3_; clear hb hbox hg))
 (try simp only [Act.put, List.setIfInBounds_toArray, List.set_cons_zero, List.set_cons_succ])
 go_cut [7] (fun v7 wc => ∃ (kq : Nat) (x7_3 : Bool), v7 = .bool x7_3 ∧ zaa (za0.j0 kq a1 a2 x7_3 l0_0 = some r) ∧ zaa (kq ≤ k) ∧ zaa (wc.heap[gb268]? = some (.cells #[(.slice A0_0 l0_0.length c0_0)] 24 (0, 0))) ∧ zaa (Below w.heap.size w wc))
 case first =>
  have H := HC4.out
  clear HC4
  by_cases c6 : a2 = true
  ·subst c6
   have H1 : ((zbF.f l0_0 a1).bind fun t269 => (za0.j0 k a1 true (!t269) l0_0)) = some r := by rw [if_pos rfl] at H; exact H
   clear H
   have H := H1
   clear H1
   replace H := Option.bind_eq_some_iff.mp H
   obtain ⟨t269, A70, H⟩ := H
   replace H : (za0.j0 k a1 true (!t269) l0_0) = some r := H
   have A7 := zaa.mk A70
   clear A70
   have H' := zaa.mk H
   clear H
   have hcz8_0 := (zad BK268.out 0).trans rfl
   have hfz8_0 := zaf BK268.out 0
   go_wp2_with (first | (go_at_call 69; (with_reducible refine (zbF.calls _ _ l0_0 a1 t269 _ ?side1 ?side2 A7.out).mono ?_); (case side1 => repeat (first | exact (Kd.C_below HR0_0.out HB.out) | (with_reducible refine Kd.C_alloc ?_ _) | (with_reducible refine Kd.C_drewN ?_ _) | (with_reducible refine Kd.C_drew ?_))); (case side2 => exact HC0_0.out); rintro e w9 ⟨rfl, hb⟩; have n0_ := zaa.mk (zan (g := gb268) (o := .cells #[.slice A0_0 l0_0.length c0_0] 24 (0, 0)) (by (with_reducible repeat (first | refine zaj ?_ _ | refine zak ?_ | refine zai ?_ _)); exact BK268.out) hb); have n1_ := zaa.mk (zam (by repeat (first | (with_reducible first | exact HB.out | apply zac | apply zab | apply zae | refine zal ?_ GE268.out) | exact HB.out)) hb); clear BK268; clear HB; have BK268 := n0_; have HB := n1_; clear n0_ n1_; (try clear hb); (try clear hb2); (try clear hk); (try clear hi)))
   go_meet
   case rel => exact ⟨_, (!t269), (by first | rfl | (simp; done) | (simp [*]; done)), H', ⟨by first | omega | exact Nat.le_refl _⟩, ⟨by (with_reducible repeat (first | refine zaj ?_ _ | refine zak ?_ | refine zai ?_ _)); exact BK268.out⟩, ⟨by repeat (first | (with_reducible first | exact HB.out | apply zac | apply zab | apply zae | refine zal ?_ GE268.out) | exact HB.out)⟩⟩
  ·replace c6 := Bool.eq_false_iff.mpr c6
   subst c6
   have H1 : (za0.j0 k a1 false false l0_0) = some r := by rw [if_neg (show ¬ (false = true) by decide)] at H; exact H
   clear H
   have H := H1
   clear H1
   have H' := zaa.mk H
   clear H
   go_wp2
   go_meet
   case rel => exact ⟨_, (false), (by first | rfl | (simp; done) | (simp [*]; done)), H', ⟨by first | omega | exact Nat.le_refl _⟩, ⟨by (with_reducible repeat (first | refine zaj ?_ _ | refine zak ?_ | refine zai ?_ _)); exact BK268.out⟩, ⟨by repeat (first | (with_reducible first | exact HB.out | apply zac | apply zab | apply zae | refine zal ?_ GE268.out) | exact HB.out)⟩⟩
 case rest =>
  clear HC4
  obtain ⟨kq, x7_3, rfl, HA, HJ3, BK268, HB⟩ := hcut
  cases kq with
  | zero => exact absurd HA.out (by simp [za0.j0])
  | succ kj3 =>
   have H := HA.out
   clear HA
   simp only [za0.j0] at H
   by_cases c10 : x7_3 = true
   ·subst c10
    have H1 : (some 54) = some r := by rw [if_pos rfl] at H; exact H
    clear H
    have H := H1
    clear H1
    obtain rfl := Option.some.inj H
    go_wp2
    go_ret
    exact ⟨by first | rfl | (simp [zau, zat] <;> rfl) | (simp [*, zau, zat] <;> rfl), by repeat (first | (with_reducible first | exact HB.out | apply zac | apply zab | apply zae | refine zal ?_ GE268.out) | exact HB.out)⟩
   ·replace c10 := Bool.eq_false_iff.mpr c10
    subst c10
    have H1 : (if a2 = true then (if 0 ≤ a1 then (if a1 < (l0_0.length : Int) then (za0.j1 kj3 a1 a2 (decide ((((zah l0_0 a1).f2).length : Int) > 0)) l0_0) else (none)) else (none)) else (za0.j1 kj3 a1 a2 false l0_0)) = some r := by rw [if_neg (show ¬ (false = true) by decide)] at H; exact H
    clear H
    have H := H1
    clear H1
    have HC11 := zaa.mk H
    clear H
    go_upto_region 3 with (fail)
    go_cut [15] (fun v15 wc => ∃ (kq : Nat) (x15_10 : Bool), v15 = .bool x15_10 ∧ zaa (za0.j1 kq a1 a2 x15_10 l0_0 = some r) ∧ zaa (kq ≤ kj3) ∧ zaa (wc.heap[gb268]? = some (.cells #[(.slice A0_0 l0_0.length c0_0)] 24 (0, 0))) ∧ zaa (Below w.heap.size w wc))
    case first =>
     have H := HC11.out
     clear HC11
     by_cases c12 : a2 = true
     ·subst c12
      have H1 : (if 0 ≤ a1 then (if a1 < (l0_0.length : Int) then (za0.j1 kj3 a1 true (decide ((((zah l0_0 a1).f2).length : Int) > 0)) l0_0) else (none)) else (none)) = some r := by rw [if_pos rfl] at H; exact H
      clear H
      have H := H1
      clear H1
      by_cases c13 : 0 ≤ a1
      ·rw [if_pos c13] at H
       have c13b0 : decide (0 ≤ a1) = true := decide_eq_true c13
       clear c13
       (first | rw [c13b0] | (simp only [zcb, zcf]; rw [c13b0]) | skip)
       by_cases c14 : a1 < (l0_0.length : Int)
       ·rw [if_pos c14] at H
        have c14b0 : decide (a1 < (l0_0.length : Int)) = true := decide_eq_true c14
        clear c14
        have H' := zaa.mk H
        clear H
        have hcz15_0 := (zad BK268.out 0).trans rfl
        have hfz15_0 := zaf BK268.out 0
        have p270 : 0 ≤ (a1 : Int) := of_decide_eq_true (by first | (with_reducible assumption) | assumption)
        have q270 : a1 < (l0_0.length : Int) := of_decide_eq_true (by first | (with_reducible assumption) | assumption)
        obtain ⟨ad270, A270_1, c270_1, A270_2, c270_2, e270, hx270_0, hx270_1, hx270_2, hx270_3, hx270_4, hx270_5, hl270_1, hi270_1, hl270_2, hi270_2⟩ := zbe HR0_0.out a1 p270 q270
        cases e270
        replace hx270_0 := (HB.out.cell (World.block_lt_of_cell? w _ hx270_0)).trans hx270_0
        replace hx270_1 := (HB.out.cell (World.block_lt_of_cell? w _ hx270_1)).trans hx270_1
        replace hx270_2 := (HB.out.cell (World.block_lt_of_cell? w _ hx270_2)).trans hx270_2
        replace hx270_3 := (HB.out.cell (World.block_lt_of_cell? w _ hx270_3)).trans hx270_3
        replace hx270_4 := (HB.out.cell (World.block_lt_of_cell? w _ hx270_4)).trans hx270_4
        replace hx270_5 := (HB.out.cell (World.block_lt_of_cell? w _ hx270_5)).trans hx270_5
        have HR270_1 := zaa.mk hi270_1
        have HC270_1 := zaa.mk hl270_1
        clear hi270_1 hl270_1
        have HR270_2 := zaa.mk hi270_2
        have HC270_2 := zaa.mk hl270_2
        clear hi270_2 hl270_2
        replace p270 := eq_true p270
        replace q270 := eq_true q270
        go_wp2
        go_meet
        case rel => exact ⟨_, (decide ((((zah l0_0 a1).f2).length : Int) > 0)), (by first | rfl | (simp; done) | (simp [*]; done)), H', ⟨by have := HJ3.out; first | omega | exact Nat.le_refl _⟩, ⟨by (with_reducible repeat (first | refine zaj ?_ _ | refine zak ?_ | refine zai ?_ _)); exact BK268.out⟩, ⟨by repeat (first | (with_reducible first | exact HB.out | apply zac | apply zab | apply zae | refine zal ?_ GE268.out) | exact HB.out)⟩⟩
       ·rw [if_neg c14] at H
        exact absurd H (by simp)
      ·rw [if_neg c13] at H
       exact absurd H (by simp)
     ·replace c12 := Bool.eq_false_iff.mpr c12
      subst c12
      have H1 : (za0.j1 kj3 a1 false false l0_0) = some r := by rw [if_neg (show ¬ (false = true) by decide)] at H; exact H
      clear H
      have H := H1
      clear H1
      have H' := zaa.mk H
      clear H
      go_wp2
      go_meet
      case rel => exact ⟨_, (false), (by first | rfl | (simp; done) | (simp [*]; done)), H', ⟨by have := HJ3.out; first | omega | exact Nat.le_refl _⟩, ⟨by (with_reducible repeat (first | refine zaj ?_ _ | refine zak ?_ | refine zai ?_ _)); exact BK268.out⟩, ⟨by repeat (first | (with_reducible first | exact HB.out | apply zac | apply zab | apply zae | refine zal ?_ GE268.out) | exact HB.out)⟩⟩
    case rest =>
     clear HC11
     try clear c10
     obtain ⟨kq, x15_10, rfl, HA, HJ10, BK268, HB⟩ := hcut
     cases kq with
     | zero => exact absurd HA.out (by simp [za0.j1])
     | succ kj10 =>
      have H := HA.out
      clear HA
      simp only [za0.j1] at H
      by_cases c16 : x15_10 = true
      ·subst c16
       have H1 : (some 55) = some r := by rw [if_pos rfl] at H; exact H
       clear H
       have H := H1
       clear H1
       obtain rfl := Option.some.inj H
       go_wp2
       go_ret
       exact ⟨by first | rfl | (simp [zau, zat] <;> rfl) | (simp [*, zau, zat] <;> rfl), by repeat (first | (with_reducible first | exact HB.out | apply zac | apply zab | apply zae | refine zal ?_ GE268.out) | exact HB.out)⟩
      ·replace c16 := Bool.eq_false_iff.mpr c16
       subst c16
       have H1 : (if a2 = true then (some 0) else ((zbF.f l0_0 a1).bind fun t271 => (if t271 = true then (some 31) else (some 0)))) = some r := by rw [if_neg (show ¬ (false = true) by decide)] at H; exact H
       clear H
       have H := H1
       clear H1
       by_cases c17 : a2 = true
       ·subst c17
        have H1 : (some 0) = some r := by rw [if_pos rfl] at H; exact H
        clear H
        have H := H1
        clear H1
        obtain rfl := Option.some.inj H
        go_wp2
        go_ret
        exact ⟨by first | rfl | (simp [zau, zat] <;> rfl) | (simp [*, zau, zat] <;> rfl), by repeat (first | (with_reducible first | exact HB.out | apply zac | apply zab | apply zae | refine zal ?_ GE268.out) | exact HB.out)⟩
       ·replace c17 := Bool.eq_false_iff.mpr c17
        subst c17
        have H1 : ((zbF.f l0_0 a1).bind fun t271 => (if t271 = true then (some 31) else (some 0))) = some r := by rw [if_neg (show ¬ (false = true) by decide)] at H; exact H
        clear H
        have H := H1
        clear H1
        replace H := Option.bind_eq_some_iff.mp H
        obtain ⟨t271, A180, H⟩ := H
        replace H : (if t271 = true then (some 31) else (some 0)) = some r := H
        have A18 := zaa.mk A180
        clear A180
        by_cases c19 : t271 = true
        ·subst c19
         have H1 : (some 31) = some r := by rw [if_pos rfl] at H; exact H
         clear H
         have H := H1
         clear H1
         obtain rfl := Option.some.inj H
         have hcz20_0 := (zad BK268.out 0).trans rfl
         have hfz20_0 := zaf BK268.out 0
         go_wp2_with (first | (go_at_call 69; (with_reducible refine (zbF.calls _ _ l0_0 a1 true _ ?side1 ?side2 A18.out).mono ?_); (case side1 => repeat (first | exact (Kd.C_below HR0_0.out HB.out) | (with_reducible refine Kd.C_alloc ?_ _) | (with_reducible refine Kd.C_drewN ?_ _) | (with_reducible refine Kd.C_drew ?_))); (case side2 => exact HC0_0.out); rintro e w21 ⟨rfl, hb⟩; have n0_ := zaa.mk (zan (g := gb268) (o := .cells #[.slice A0_0 l0_0.length c0_0] 24 (0, 0)) (by (with_reducible repeat (first | refine zaj ?_ _ | refine zak ?_ | refine zai ?_ _)); exact BK268.out) hb); have n1_ := zaa.mk (zam (by repeat (first | (with_reducible first | exact HB.out | apply zac | apply zab | apply zae | refine zal ?_ GE268.out) | exact HB.out)) hb); clear BK268; clear HB; have BK268 := n0_; have HB := n1_; clear n0_ n1_; (try clear hb); (try clear hb2); (try clear hk); (try clear hi)))
         go_ret
         exact ⟨by first | rfl | (simp [zau, zat] <;> rfl) | (simp [*, zau, zat] <;> rfl), by repeat (first | (with_reducible first | exact HB.out | apply zac | apply zab | apply zae | refine zal ?_ GE268.out) | exact HB.out)⟩
        ·replace c19 := Bool.eq_false_iff.mpr c19
         subst c19
         have H1 : (some 0) = some r := by rw [if_neg (show ¬ (false = true) by decide)] at H; exact H
         clear H
         have H := H1
         clear H1
         obtain rfl := Option.some.inj H
         have hcz22_0 := (zad BK268.out 0).trans rfl
         have hfz22_0 := zaf BK268.out 0
         go_wp2_with (first | (go_at_call 69; (with_reducible refine (zbF.calls _ _ l0_0 a1 false _ ?side1 ?side2 A18.out).mono ?_); (case side1 => repeat (first | exact (Kd.C_below HR0_0.out HB.out) | (with_reducible refine Kd.C_alloc ?_ _) | (with_reducible refine Kd.C_drewN ?_ _) | (with_reducible refine Kd.C_drew ?_))); (case side2 => exact HC0_0.out); rintro e w23 ⟨rfl, hb⟩; have n0_ := zaa.mk (zan (g := gb268) (o := .cells #[.slice A0_0 l0_0.length c0_0] 24 (0, 0)) (by (with_reducible repeat (first | refine zaj ?_ _ | refine zak ?_ | refine zai ?_ _)); exact BK268.out) hb); have n1_ := zaa.mk (zam (by repeat (first | (with_reducible first | exact HB.out | apply zac | apply zab | apply zae | refine zal ?_ GE268.out) | exact HB.out)) hb); clear BK268; clear HB; have BK268 := n0_; have HB := n1_; clear n0_ n1_; (try clear hb); (try clear hb2); (try clear hk); (try clear hi)))
         go_ret
         exact ⟨by first | rfl | (simp [zau, zat] <;> rfl) | (simp [*, zau, zat] <;> rfl), by repeat (first | (with_reducible first | exact HB.out | apply zac | apply zab | apply zae | refine zal ?_ GE268.out) | exact HB.out)⟩
def unlinkE (k : Nat) (l : List S40) (dir : Int) (s : ByteArray) (isdir : Bool) : Option (Int × Int) :=
 (tree_find.f k l dir s).bind fun q => if q.2 = 0 then (za0.f k l q.1 isdir).bind fun e => some (q.1, e) else some q
theorem removeN_len (l : List S40) (dir : Int) (s : ByteArray) (now : Int) : (zcd l dir s now).length = l.length := List.length_set
def zbz (u : List S40) (n : Int) : List S40 := u.set n.toNat { zah u n with f4 := wrap64 ((zah u n).f4 - 1) }
def unlinkD (u : List S40) (node dir : Int) (s : ByteArray) (now : Int) : Option (List S40) :=
 if 0 ≤ node ∧ node < (u.length : Int) ∧ 0 ≤ dir ∧ dir < (u.length : Int) ∧ (zah u dir).f2.length ≤ 1000000 ∧ bs (zah u dir).f2 s < (zah u dir).f2.length then some (zbz (zcd u dir s now) node) else none
def zbG.f (k : Nat) (l0_0 : List S40) (a1 : Int) (a2 : ByteArray) (a3 : Bool) (a4 : Int) : Option (List S40 × Int) :=
 (linkP k l0_0 [a1] a4).bind fun p => if p = true then (unlinkE k l0_0 a1 a2 a3).bind fun q => (if q.2 = 0 then (za3.f k l0_0).bind fun u => (unlinkD u q.1 a1 a2 a4).bind fun r => some (r, 0) else zbw.f k l0_0 q.2) else zbw.f k l0_0 100
set_option maxHeartbeats 8000000 in
set_option maxRecDepth 100000 in
theorem zbG.calls (k : Nat) (A0_0 : Option Addr) (c0_0 : Nat) (l0_0 : List S40) (a1 : Int) (a2 : ByteArray) (a3 : Bool) (a4 : Int) (r1 : List S40) (r2 : Int) (w : World) (hr0_0 : Kd.C k40 w A0_0 l0_0.length l0_0) (hc0_0 : l0_0.length ≤ c0_0) (h : zbG.f k l0_0 a1 a2 a3 a4 = some (r1, r2)) :
  Calls Tryz.prog 33 #[.agg #[.slice A0_0 l0_0.length c0_0], .int .i64 a1, .string a2, .bool a3, .int .i64 a4] w fun e w' => ∃ v0_ : Value, e = .returned (.tuple #[.agg #[v0_], .int .i64 r2]) ∧ Kd.S k40 40 w' w.heap.size (fun _ => True) v0_ r1 ∧ Below w.heap.size w w' := by
 obtain ⟨p, hP, h⟩ := Option.bind_eq_some_iff.mp h
 have HR := zaa.mk hr0_0
 have HC := zaa.mk hc0_0
 have HP := zaa.mk hP
 have HH := zaa.mk h
 have hut := Tryz.underlying24
 have hun := Tryz.underlying40
 have hsi := Tryz.underlying95
 have HW := zaa.mk (treeW_below w A0_0 l0_0.length c0_0)
 have HW0 := zaa.mk (Below.refl (treeW w A0_0 l0_0.length c0_0).heap.size (treeW w A0_0 l0_0.length c0_0))
 clear hr0_0 hc0_0 hP h
 go_enter Tryz.func33, Tryz.ntmps33
 go_upto_region 1 with (fail)
 go_cut [23] (fun v23 wc => v23 = .bool (!p) ∧ zaa (Below (treeW w A0_0 l0_0.length c0_0).heap.size (treeW w A0_0 l0_0.length c0_0) wc))
 case first =>
  have hmm := HP.out
  clear HH HP
  unfold linkP at hmm
  obtain ⟨m, hm, hmm⟩ := Option.bind_eq_some_iff.mp hmm
  have HM := zaa.mk hm
  have HD := zaa.mk (Kd.zb0 (R_of_blk (xs := [a1]) (k := .i64) (base := 0) (zbd (treeW w A0_0 l0_0.length c0_0) (.cells #[.int .i64 a1] 3)) (Nat.zero_le _) (by simp))).2.2
  have hWs : (treeW w A0_0 l0_0.length c0_0).heap.size = w.heap.size + 1 + 1 := by show ((w.alloc _).alloc _).heap.size = _; rw [World.size_alloc, World.size_alloc]
  rw [hWs] at HD
  clear hm hWs
  cases m with
  | false =>
   obtain rfl := Option.some.inj (show some false = some p from hmm)
   clear hmm
   go_wp2_with (first | (go_at_call 66; refine (zby.calls k A0_0 c0_0 l0_0 (some ⟨w.heap.size + 1 + 1, 0, none⟩) 1 [a1] false _ (Kd.C_below HR.out (by repeat (first | exact HW.out | exact Below.refl _ _ | apply zac | apply zab | apply zae | apply zay))) HC.out HD.out (by simp) HM.out).mono ?_; rintro e' w1 ⟨rfl, hb⟩; have HB1 := zaa.mk (zam (zac HW0.out _) hb); clear hb))
   go_meet
   case rel => exact ⟨rfl, HB1⟩
  | true =>
   obtain ⟨tm, ht, hmm⟩ := Option.bind_eq_some_iff.mp (show ((zbh.f a4).bind fun tm => some tm) = some p from hmm)
   obtain rfl := Option.some.inj hmm
   have HT := zaa.mk ht
   clear ht hmm
   go_wp2_with (first | (go_at_call 66; refine (zby.calls k A0_0 c0_0 l0_0 (some ⟨w.heap.size + 1 + 1, 0, none⟩) 1 [a1] true _ (Kd.C_below HR.out (by repeat (first | exact HW.out | exact Below.refl _ _ | apply zac | apply zab | apply zae | apply zay))) HC.out HD.out (by simp) HM.out).mono ?_; rintro e' w1 ⟨rfl, hb⟩; have HB1 := zaa.mk (zam (zac HW0.out _) hb); clear hb) | (go_at_call 67; refine (zbh.calls a4 _ _ HT.out).mono ?_; rintro e' w2 ⟨rfl, ⟨nd, rfl⟩⟩))
   go_meet
   case rel => exact ⟨rfl, ⟨by repeat (first | exact HB1.out | exact Below.refl _ _ | apply zac | apply zab | apply zae | apply zay)⟩⟩
 case rest =>
  clear HP HW0
  obtain ⟨rfl, HB⟩ := hcut
  have hct := zbU HB.out
  cases p with
  | false =>
   have hbad : zbw.f k l0_0 100 = some (r1, r2) := HH.out
   have HBAD := zaa.mk hbad
   clear hbad
   go_wp2_with (first | (go_at_call 68; refine (zbw.calls k A0_0 c0_0 l0_0 100 r1 r2 _ (Kd.C_below HR.out (zam HW.out HB.out)) HC.out HBAD.out).mono ?_; rintro e' w1 ⟨v, rfl, hS, hb⟩; obtain ⟨vA, vc, rfl⟩ := Kd.zbI hS; have HS1 := zaa.mk hS; have HB1 := zaa.mk (zam HB.out hb); have HK := zaa.mk (treeW_blk HB1.out); have hct1 := (zad HK.out.2 0).trans rfl; have hf1 := zaf HK.out.2 0; clear hS hb))
   refine bodyPost_ret (zbp rfl _ _ (w.heap.size + 1) 24 #[.slice vA r1.length vc] (0, 0) _ rfl (zaR HK.out.2 0 _ rfl) Tryz.underlying24 rfl (by kernel_rfl)) rfl ?_
   exact ⟨_, rfl, Kd.S_set (Kd.zbB HS1.out (zam HW.out HB.out).size) HK.out.2 (by decide) 0 _, (zam HW.out HB1.out).setCell (p := ⟨w.heap.size + 1, 0, none⟩) (by show _ ≤ _ + 1; omega) _⟩
  | true =>
   obtain ⟨⟨nn, e⟩, hE, hq⟩ := Option.bind_eq_some_iff.mp (show ((unlinkE k l0_0 a1 a2 a3).bind fun q => (if q.2 = 0 then (za3.f k l0_0).bind fun u => (unlinkD u q.1 a1 a2 a4).bind fun r => some (r, 0) else zbw.f k l0_0 q.2)) = some (r1, r2) from HH.out)
   have HQ := zaa.mk hq
   obtain ⟨⟨n1, e0⟩, hd, hE⟩ := Option.bind_eq_some_iff.mp hE
   have HE := zaa.mk hE
   have HD := zaa.mk hd
   have HNN : zaa (n1 = nn) := ⟨by
    have hE2 := hE
    split at hE2
    ·obtain ⟨x, _, hx⟩ := Option.bind_eq_some_iff.mp hE2
     injection (Option.some.inj hx)
    ·injection (Option.some.inj hE2)⟩
   obtain rfl := HNN.out
   clear HH hq hE hd HNN
   go_upto_if 36 with (first | (go_at_call 74; refine (tree_find.calls k A0_0 c0_0 l0_0 a1 a2 n1 e0 _ (Kd.C_below HR.out (zam HW.out HB.out)) HC.out HD.out).mono ?_; rintro e' w1 ⟨rfl, hb⟩; have HB1 := zaa.mk (zam HB.out hb); have hct1 := zbU HB1.out; clear hb))
   clear HB hct
   go_cut [13] (fun v13 wc => v13 = .int .i64 e ∧ zaa (Below (treeW w A0_0 l0_0.length c0_0).heap.size (treeW w A0_0 l0_0.length c0_0) wc))
   case first =>
    clear HQ
    by_cases y1 : e0 = 0
    ·have Y1 : (e0 == 0) = true := beq_iff_eq.mpr y1
     have hE := HE.out
     rw [if_pos y1] at hE
     obtain ⟨e1, he1, he2⟩ := Option.bind_eq_some_iff.mp hE
     injection (Option.some.inj he2) with _ he3
     subst he3
     have HE1 := zaa.mk he1
     clear he1 he2 HE hE y1
     go_wp2_with (first | (go_at_call 75; refine (za0.calls k A0_0 c0_0 l0_0 n1 a3 _ _ (Kd.C_below HR.out (zam HW.out HB1.out)) HC.out HE1.out).mono ?_; rintro e' w2 ⟨rfl, hb⟩; have HB2 := zaa.mk (zam HB1.out hb); clear hb))
     go_meet
     case rel => exact ⟨rfl, HB2⟩
    ·have Y1 : (e0 == 0) = false := beq_eq_false_iff_ne.mpr y1
     have hE := HE.out
     rw [if_neg y1] at hE
     injection (Option.some.inj hE) with _ he3
     subst he3
     clear HE hE y1
     go_wp2
     go_meet
     case rel => exact ⟨rfl, HB1⟩
   case rest =>
    clear HE HD hct1 HB1
    obtain ⟨rfl, HB⟩ := hcut
    have hct := zbU HB.out
    by_cases z1 : e = 0
    ·have Z1 : (e != 0) = false := by simpa using z1
     obtain rfl := z1
     have hq := HQ.out
     rw [if_pos rfl] at hq
     obtain ⟨u, hu, hq⟩ := Option.bind_eq_some_iff.mp hq
     obtain ⟨r, hr, hq⟩ := Option.bind_eq_some_iff.mp hq
     injection (Option.some.inj hq) with hq1 hq2
     subst hq1; subst hq2
     unfold unlinkD at hr
     split at hr
     ·rename_i hg1
      have HADD := zaa.mk (Option.some.inj hr)
      have HU := zaa.mk hu
      have HG1 := zaa.mk hg1
      have HSZ : zaa (w.heap.size + 2 ≤ wc.heap.size) := ⟨by have := HB.out.size; have h2 : (treeW w A0_0 l0_0.length c0_0).heap.size = w.heap.size + 1 + 1 := (by show ((w.alloc _).alloc _).heap.size = _; rw [World.size_alloc, World.size_alloc]); omega⟩
      have p0 := eq_true hg1.1
      have p1 := eq_true hg1.2.1
      have hpos : 0 < u.length := by omega
      clear HQ hq hu hr hg1
      go_wp2_with (first | (go_at_call 71; refine (za3.calls k A0_0 c0_0 l0_0 u _ (Kd.C_below HR.out (zam HW.out HB.out)) HC.out HU.out).mono ?_; rintro e' w1 ⟨v, rfl, hS, hb⟩; obtain ⟨g, vc, rfl, hgN, hgl, _⟩ := Kd.S_form hS hpos; have HB1 := zam HB.out hb; have hK := treeW_blk HB1; have hX := boxed hK.1 hK.2 (zam HW.out HB1) (Kd.zbB (Kd.zbr (ok' := (fun k => k ≠ w.heap.size ∧ k ≠ w.heap.size + 1)) (Kd.S_bound hS) (fun k hk => ⟨by have := HSZ.out; have := hk.2.1; omega, by have := HSZ.out; have := hk.2.1; omega⟩)) (zam HW.out HB.out).size); have hct1 := zbU HB1; have hf1 := zaf hK.1 0; have HK6 := zaa.mk hX.1; have HK12 := zaa.mk hX.2.1; have HS1 := zaa.mk hX.2.2.1; have HB2 := zaa.mk hX.2.2.2; have hct2 := (zad HK6.out 0).trans rfl; have hf2 := zaf HK6.out 0; clear hS hb hX HB1 hK) | (go_at_call 76; have hadd := tree_remove.calls _ w.heap.size g vc (fun k => k ≠ w.heap.size ∧ k ≠ w.heap.size + 1) u a1 a2 a4 HS1.out HG1.out.2.2.1 HG1.out.2.2.2.1 HB2.out.size (by have := HG1.out.2.2.2.2.1; omega) HG1.out.2.2.2.2.2; refine hadd.mono ?_; rintro e' w5 ⟨rfl, hS5, hb5, ho5⟩; have hlen := removeN_len u a1 a2 a4; rw [← hlen] at hS5; obtain ⟨hl4, hfl, hokg, hbg, _, hnew⟩ := links_anew hS5 n1 HG1.out.1 (by rw [hlen]; exact HG1.out.2.1); rw [hlen] at hnew; have HNEW := zaa.mk hnew; have HK6c := zaa.mk ((ho5 w.heap.size (zaP HK6.out) (by simp)).trans HK6.out); have HK12c := zaa.mk ((ho5 (w.heap.size + 1) (zaP HK12.out) (by simp)).trans HK12.out); have HB5 := zaa.mk (HB2.out.trans hb5); have hct5 := (zad HK6c.out 0).trans rfl; have HGB := zaa.mk hbg; have HK6d := zaa.mk (fun u' : Value => zaG HK6c.out (p := ⟨g, n1.toNat * 6 + 4, none⟩) (fun e => hokg.1 e.symm) u'); have HK12d := zaa.mk (fun u' : Value => zaG HK12c.out (p := ⟨g, n1.toNat * 6 + 4, none⟩) (fun e => hokg.2 e.symm) u'); have hct6 := fun u' => (zad (HK6d.out u') 0).trans rfl; have hct12 := fun u' => (zad (HK12d.out u') 0).trans rfl; have hf12 := fun u' => zaf (HK12d.out u') 0; clear hadd hS5 hb5 ho5 hnew hlen hokg hbg))
      refine bodyPost_ret (zbp rfl _ _ (w.heap.size + 1) 24 #[.slice (some ⟨g, 0, none⟩) u.length vc] (0, 0) _ rfl (zaR (HK12d.out _) 0 _ rfl) Tryz.underlying24 rfl (by kernel_rfl)) rfl ?_
      refine ⟨_, rfl, ?_, (HB5.out.setCell HGB.out _).setCell (p := ⟨w.heap.size + 1, 0, none⟩) (by show _ ≤ _ + 1; omega) _⟩
      rw [← HADD.out]
      exact Kd.zbr (Kd.S_set (HNEW.out _) (HK12d.out _) (by decide) 0 _) (fun _ _ => trivial)
     ·cases hr
    ·have Z1 : (e != 0) = true := by simpa using z1
     have hbad := HQ.out
     replace hbad : zbw.f k l0_0 e = some (r1, r2) := by rw [if_neg (show ¬ (n1, e).2 = 0 from z1)] at hbad; exact hbad
     have HBAD := zaa.mk hbad
     clear hbad
     clear z1
     go_wp2_with (first | (go_at_call 68; refine (zbw.calls k A0_0 c0_0 l0_0 e r1 r2 _ (Kd.C_below HR.out (zam HW.out HB.out)) HC.out HBAD.out).mono ?_; rintro e' w1 ⟨v, rfl, hS, hb⟩; obtain ⟨vA, vc, rfl⟩ := Kd.zbI hS; have HS1 := zaa.mk hS; have HB1 := zaa.mk (zam HB.out hb); have HK := zaa.mk (treeW_blk HB1.out); have hct1 := (zad HK.out.2 0).trans rfl; have hf1 := zaf HK.out.2 0; clear hS hb))
     refine bodyPost_ret (zbp rfl _ _ (w.heap.size + 1) 24 #[.slice vA r1.length vc] (0, 0) _ rfl (zaR HK.out.2 0 _ rfl) Tryz.underlying24 rfl (by kernel_rfl)) rfl ?_
     exact ⟨_, rfl, Kd.S_set (Kd.zbB HS1.out (zam HW.out HB.out).size) HK.out.2 (by decide) 0 _, (zam HW.out HB1.out).setCell (p := ⟨w.heap.size + 1, 0, none⟩) (by show _ ≤ _ + 1; omega) _⟩
end Go.Proofs.YtjghephnjkffcaaGreat.PAll
