/- Parts of one proof, merged by a program of this repo: walks over the given program and plain facts. -/
import Derived.Test.YtjghephnjkffcaaMTreeWhole10
import Derived.Test.YtjghephnjkffcaaMTreeWhole8
import Derived.Test.YtjghephnjkffcaaMTreeWhole11
import Derived.Test.YtjghephnjkffcaaMTreeWhole5
import Derived.Test.YtjghephnjkffcaaMTreeWhole14
import Derived.Test.YtjghephnjkffcaaMTreeWhole15
import Derived.Test.YtjghephnjkffcaaMTreeWhole4
import Derived.Test.YtjghephnjkffcaaMTreeWhole6
import Derived.Test.YtjghephnjkffcaaMTreeWhole9
import Derived.Test.YtjghephnjkffcaaMTreeWhole12
import Derived.Test.YtjghephnjkffcaaMTreeWhole13
namespace Go.Proofs.Ytjghephnjkffcaa.PCk
open Go.RowKit Go.Proofs.YtjghephnjkffcaaW.PrintWords Go.Proofs.YtjghephnjkffcaaW.PrintLast Go.Proofs.YtjghephnjkffcaaW.PrintMore
attribute [local go_sem] zbV zbT zci zch zbG zbF zbU zbS
set_option linter.unusedVariables false
set_option linter.unusedSimpArgs false
theorem wroteB_len (old : List Int) (t : Nat) (b : List Int) : (wroteB old t b).length = max old.length (t + b.length) := by
 unfold wroteB; rw [length_splice _ _ _ (by rw [zbW]; omega), zbW]
theorem dir_f (l : List S45) (d : Nat) (hd : d < l.length) : zbo.f l (d : Int) = some ((zae l (d : Int)).f0 == 2) := by
 unfold zbo.f; rw [if_pos (by omega), if_pos (by omega)]
theorem place_f {l : List S45} (d : Nat) (hd : d < l.length) (h : (zae l (d : Int)).f2.length ≤ 64) (s : ByteArray) : za1.f l (d : Int) s = some ((bs (zae l (d : Int)).f2 s : Int), bsAt (zae l (d : Int)).f2 s) := by
 unfold za1.f; rw [if_pos (by omega), if_pos (by omega), if_pos (by omega)]
def zck (l : List S45) (d : Nat) (s : ByteArray) : Int × Int := if (zae l (d : Int)).f0 = 2 then (if zbY s = 0 then (if bsAt (zae l (d : Int)).f2 s = true then ((zat (zae l (d : Int)).f2 ((bs (zae l (d : Int)).f2 s : Nat) : Int)).f1, 0) else (0, 44)) else (0, zbY s)) else (0, 54)
theorem find_ev {l : List S45} (h : MayP l) (d : Nat) (hd : d < l.length) (s : ByteArray) : Ev (fun k => zbz.f k l (d : Int) s) (zck l d s) := by
 unfold zck
 by_cases hk : (zae l (d : Int)).f0 = 2
 ·rw [if_pos hk]
  have hpl := place_f d hd (nodeP_names (h.nodes d hd)) s
  have hk' : ((zae l (d : Int)).f0 == 2) = true := by simpa using hk
  have hn := tree_name_ev s
  refine Ev.congr (fun k => by unfold zbz.f; rw [dir_f l d hd, hk', Option.bind_some, if_pos rfl]) (Ev.bind hn ?_)
  by_cases hs : zbY s = 0
  ·rw [if_pos hs]
   by_cases hb : bsAt (zae l (d : Int)).f2 s = true
   ·rw [if_pos hb]
    refine Ev.congr (fun k => ?_) (Ev.now _)
    have hlt : bs (zae l (d : Int)).f2 s < (zae l (d : Int)).f2.length := by
     unfold bsAt at hb; rw [Bool.and_eq_true, decide_eq_true_eq] at hb; exact hb.1
    rw [if_pos hs, hpl, Option.bind_some, if_pos hb, if_pos (by omega), if_pos (by omega), if_pos (by omega), if_pos (by omega)]
   ·rw [if_neg hb]
    refine Ev.congr (fun k => ?_) (Ev.now _)
    rw [if_pos hs, hpl, Option.bind_some, if_neg hb]
  ·rw [if_neg hs]
   refine Ev.congr (fun k => ?_) (Ev.now _)
   rw [if_neg hs]
 ·rw [if_neg hk]
  have hk' : ((zae l (d : Int)).f0 == 2) = false := by simpa using hk
  refine Ev.congr (fun k => ?_) (Ev.now _)
  unfold zbz.f; rw [dir_f l d hd, hk', Option.bind_some, if_neg (by simp)]
theorem hasB_of (l : List S45) (d : Int) (h : hasB l d = true) : ∃ m : Nat, d = (m : Int) ∧ m < l.length ∧ (zae l (m : Int)).f0 ≠ 0 := by
 unfold hasB at h
 simp only [Bool.and_eq_true, decide_eq_true_eq, bne_iff_ne, ne_eq] at h
 exact ⟨d.toNat, by omega, by omega, by rw [show ((d.toNat : Nat) : Int) = d by omega]; exact h.2.2⟩
theorem hasB_nd (l : List S45) (m : Nat) (h : m < l.length) (hk : (zae l (m : Int)).f0 ≠ 0) : hasB l (m : Int) = true := by
 rw [hasB_nat l m h]; simpa using hk
theorem findR_mem {l : List S45} (h : MayP l) {d : Nat} (hd : d < l.length) (hk : (zae l (d : Int)).f0 = 2) {s : ByteArray} (hs : zbY s = 0) {n : Int} (hm : (⟨s, n⟩ : S66) ∈ (zae l (d : Int)).f2) : zck l d s = (n, 0) := by
 have hdp := (h.nodes d hd).dir hk
 unfold zck
 rw [if_pos hk, if_pos hs, if_pos ((bsAt_mem hdp.sorted s).2 ⟨n, hm⟩), (bs_mem hdp.sorted hm).2]
theorem findR_no {l : List S45} {d : Nat} (hk : (zae l (d : Int)).f0 = 2) {s : ByteArray} (hs : zbY s = 0) (hb : bsAt (zae l (d : Int)).f2 s = false) : zck l d s = (0, 44) := by
 unfold zck; rw [if_pos hk, if_pos hs, hb, if_neg (by simp)]
theorem nameP_cases (s : ByteArray) : zbY s = 28 ∨ zbY s = 37 ∨ zbY s = 0 := by
 unfold zbY; split
 ·exact .inl rfl
 ·split
  ·exact .inr (.inl rfl)
  ·exact .inr (.inr rfl)
theorem findR_zero {l : List S45} (h : MayP l) {d : Nat} (hd : d < l.length) {s : ByteArray} {n : Int} (he : zck l d s = (n, 0)) : (zae l (d : Int)).f0 = 2 ∧ zbY s = 0 ∧ (⟨s, n⟩ : S66) ∈ (zae l (d : Int)).f2 := by
 unfold zck at he
 by_cases hk : (zae l (d : Int)).f0 = 2
 ·rw [if_pos hk] at he
  by_cases hs : zbY s = 0
  ·rw [if_pos hs] at he
   by_cases hb : bsAt (zae l (d : Int)).f2 s = true
   ·have hdp := (h.nodes d hd).dir hk
    obtain ⟨n', hm⟩ := (bsAt_mem hdp.sorted s).1 hb
    rw [if_pos hb, (bs_mem hdp.sorted hm).2] at he
    injection he with h1 _
    exact ⟨hk, hs, h1 ▸ hm⟩
   ·rw [if_neg hb] at he; injection he with _ h2; exact absurd h2 (by decide)
  ·rw [if_neg hs] at he; injection he with _ h2; exact absurd h2 hs
 ·rw [if_neg hk] at he; injection he with _ h2; exact absurd h2 (by decide)
theorem findR_44 {l : List S45} {d : Nat} {s : ByteArray} {n : Int} (he : zck l d s = (n, 44)) : (zae l (d : Int)).f0 = 2 ∧ zbY s = 0 ∧ bsAt (zae l (d : Int)).f2 s = false := by
 unfold zck at he
 by_cases hk : (zae l (d : Int)).f0 = 2
 ·rw [if_pos hk] at he
  by_cases hs : zbY s = 0
  ·rw [if_pos hs] at he
   by_cases hb : bsAt (zae l (d : Int)).f2 s = true
   ·rw [if_pos hb] at he; injection he with _ h2; exact absurd h2 (by decide)
   ·exact ⟨hk, hs, by simpa using hb⟩
  ·rw [if_neg hs] at he; injection he with _ h2
   rcases nameP_cases s with q | q | q
   ·omega
   ·omega
   ·exact absurd q hs
 ·rw [if_neg hk] at he; injection he with _ h2; exact absurd h2 (by decide)
def roomR (l : List S45) (d : Nat) (s : ByteArray) (b : Int) : Int := if (zae l (d : Int)).f0 = 2 then (if zbY s = 0 then (if b = 0 then (if (zae l (d : Int)).f4 = 0 then 44 else if bsAt (zae l (d : Int)).f2 s = true then 20 else if (zae l (d : Int)).f2.length = 64 then 51 else 0) else b) else zbY s) else 54
theorem room_ev {l : List S45} (h : MayP l) (d : Nat) (hd : d < l.length) (s : ByteArray) (b : Int) : Ev (fun k => zbM.f k l (d : Int) s b) (roomR l d s b) := by
 unfold roomR
 by_cases hk : (zae l (d : Int)).f0 = 2
 ·rw [if_pos hk]
  have hpl := place_f d hd (nodeP_names (h.nodes d hd)) s
  have hk' : ((zae l (d : Int)).f0 == 2) = true := by simpa using hk
  refine Ev.congr (fun k => by unfold zbM.f; rw [dir_f l d hd, hk', Option.bind_some, if_pos rfl]) (Ev.bind (tree_name_ev s) ?_)
  by_cases hs : zbY s = 0
  ·rw [if_pos hs]
   refine Ev.congr (fun k => ?_) (Ev.now _)
   rw [if_pos hs, hpl, Option.bind_some]
   by_cases hb : b = 0
   ·rw [if_pos hb, if_pos hb, if_pos (by omega), if_pos (by omega)]
    by_cases h4 : (zae l (d : Int)).f4 = 0
    ·rw [if_pos h4, if_pos h4]
    ·rw [if_neg h4, if_neg h4]
     by_cases hat : bsAt (zae l (d : Int)).f2 s = true
     ·rw [if_pos hat, if_pos hat]
     ·rw [if_neg hat, if_neg hat]
      by_cases hl : (zae l (d : Int)).f2.length = 64
      ·rw [if_pos hl, if_pos (by omega)]
      ·rw [if_neg hl, if_neg (by omega)]
   ·rw [if_neg hb, if_neg hb]
  ·rw [if_neg hs]
   refine Ev.congr (fun k => ?_) (Ev.now _)
   rw [if_neg hs]
 ·rw [if_neg hk]
  have hk' : ((zae l (d : Int)).f0 == 2) = false := by simpa using hk
  refine Ev.congr (fun k => ?_) (Ev.now _)
  unfold zbM.f; rw [dir_f l d hd, hk', Option.bind_some, if_neg (by simp)]
theorem roomR_zero {l : List S45} {d : Nat} {s : ByteArray} {b : Int} (h : roomR l d s b = 0) : (zae l (d : Int)).f0 = 2 ∧ zbY s = 0 ∧ b = 0 ∧ (zae l (d : Int)).f4 ≠ 0 ∧ bsAt (zae l (d : Int)).f2 s = false ∧ (zae l (d : Int)).f2.length ≠ 64 := by
 unfold roomR at h
 by_cases hk : (zae l (d : Int)).f0 = 2
 ·rw [if_pos hk] at h
  by_cases hs : zbY s = 0
  ·rw [if_pos hs] at h
   by_cases hb : b = 0
   ·rw [if_pos hb] at h
    by_cases h4 : (zae l (d : Int)).f4 = 0
    ·rw [if_pos h4] at h; exact absurd h (by decide)
    ·rw [if_neg h4] at h
     by_cases hat : bsAt (zae l (d : Int)).f2 s = true
     ·rw [if_pos hat] at h; exact absurd h (by decide)
     ·rw [if_neg hat] at h
      by_cases hl : (zae l (d : Int)).f2.length = 64
      ·rw [if_pos hl] at h; exact absurd h (by decide)
      ·exact ⟨hk, hs, hb, h4, by simpa using hat, hl⟩
   ·rw [if_neg hb] at h; exact absurd h hb
  ·rw [if_neg hs] at h; exact absurd h hs
 ·rw [if_neg hk] at h; exact absurd h (by decide)
theorem free_l0 (l : List S45) (hl : l.length ≤ 64) : ∀ (d i : Nat), i + d = l.length → (∀ j, j < i → (zae l (j : Int)).f0 ≠ 0) → ∃ n : Nat, Ev (fun k => zbd.l0 k l (l.length : Int) (i : Int) l) (n : Int) ∧ n ≤ l.length ∧ (n < l.length → (zae l (n : Int)).f0 = 0) ∧ ∀ j, j < n → (zae l (j : Int)).f0 ≠ 0
 | 0, i, h, hno => ⟨l.length, Ev.step (f := fun _ => some (l.length : Int)) (fun k => by rw [zbd.l0, if_neg (by omega)]) (Ev.now _), Nat.le_refl _, fun q => absurd q (Nat.lt_irrefl _), fun j hj => hno j (by omega)⟩
 | d + 1, i, h, hno => by
  by_cases hk : (zae l (i : Int)).f0 = 0
  ·exact ⟨i, Ev.step (f := fun _ => some (i : Int)) (fun k => by rw [zbd.l0, if_pos (by omega), if_pos (by omega), if_pos (by omega), if_pos hk]) (Ev.now _), by omega, fun _ => hk, hno⟩
  ·obtain ⟨n, h1, h2⟩ := free_l0 l hl d (i + 1) (by omega) (fun j hj => by
    by_cases e : j = i
    ·subst e; exact hk
    ·exact hno j (by omega))
   exact ⟨n, Ev.step (fun k => by rw [zbd.l0, if_pos (by omega), if_pos (by omega), if_pos (by omega), if_neg hk, up64 (by omega)]) h1, h2⟩
theorem free_ev (l : List S45) (hl : l.length ≤ 64) : ∃ n : Nat, Ev (fun k => zbd.f k l) (n : Int) ∧ n ≤ l.length ∧ (n < l.length → (zae l (n : Int)).f0 = 0) ∧ ∀ j, j < n → (zae l (j : Int)).f0 ≠ 0 := free_l0 l hl l.length 0 (by omega) (fun j hj => by omega)
def leadsR (kind : Int) (t : ByteArray) : Int := if kind = 3 then (if t = ⟨#[]⟩ ∨ (0 : UInt8) ∈ bytesOf t then 28 else if (t.size : Int) > 512 then 37 else 0) else 0
theorem leads_ev (kind : Int) (t : ByteArray) : Ev (fun k => za0.f k kind t) (leadsR kind t) := by
 unfold leadsR
 have hj : ∀ b : Bool, Ev (fun k => za0.j0 k t b) (if b = true then 28 else if (t.size : Int) > 512 then 37 else 0) := fun b => Ev.step (f := fun _ => some (if b = true then 28 else if (t.size : Int) > 512 then 37 else 0)) (fun k => by
  show za0.j0 (k + 1) t b = _
  rw [za0.j0]
  by_cases q : b = true
  ·rw [if_pos q, if_pos q]
  ·rw [if_neg q, if_neg q]
   by_cases q2 : (t.size : Int) > 512
   ·rw [if_pos q2, if_pos q2]
   ·rw [if_neg q2, if_neg q2]) (Ev.now _)
 by_cases hk : kind = 3
 ·rw [if_pos hk]
  by_cases he : t.toList = ([] : List UInt8)
  ·rw [if_pos (.inl (zb7.1 he))]
   exact Ev.congr (fun k => by unfold za0.f; rw [if_pos hk, if_pos he]) (hj true)
  ·have h0 := idx_ge 0 (bytesOf t)
   refine Ev.congr (fun k => by unfold za0.f; rw [if_pos hk, if_neg he]; simp only [strings_IndexByte.f, Option.bind_some]; rfl) (f := fun k => za0.j0 k t (decide (Lib.indexByte (bytesOf t) 0 ≥ 0))) ?_
   have := hj (decide (Lib.indexByte (bytesOf t) 0 ≥ 0))
   by_cases hz : (0 : UInt8) ∈ bytesOf t
   ·rw [if_pos (.inr hz)]
    rw [if_pos (decide_eq_true (h0.2 hz))] at this; exact this
   ·rw [if_neg (fun q => q.elim (fun q => he (zb7.2 q)) hz)]
    rw [if_neg (by rw [decide_eq_true_eq]; exact fun q => hz (h0.1 q))] at this; exact this
 ·rw [if_neg hk]
  exact Ev.congr (fun k => by unfold za0.f; rw [if_neg hk]) (Ev.now _)
theorem linkP_evs {l : List S45} (h : MayP l) (ns : List Int) (t : Int) : ∃ p : Bool, Ev (fun k => linkP k l ns t) p ∧ (p = true ↔ (∀ n ∈ ns, hasB l n = true) ∧ zct t) := by
 have hm := mayN_ev h.ev ns
 rw [Bool.true_and] at hm
 obtain ⟨b, hb, hbt⟩ := tree_time_ t
 unfold linkP
 by_cases q : (ns.all fun n => hasB l n) = true
 ·rw [q] at hm
  refine ⟨b, Ev.bind hm (Ev.congr (fun _ => if_pos rfl) (Ev.congr (fun _ => by rw [hb]; rfl) (Ev.now b))), hbt.trans ⟨fun h => ⟨by simpa using q, h⟩, And.right⟩⟩
 ·rw [Bool.not_eq_true] at q
  rw [q] at hm
  refine ⟨false, Ev.bind hm (Ev.congr (fun _ => if_neg (by simp)) (Ev.now _)), ⟨fun h => by (cases h), fun h => ?_⟩⟩
  have : (ns.all fun n => hasB l n) = true := by simpa using h.1
  rw [q] at this; cases this
theorem MayP.bad {l : List S45} (h : MayP l) (e : Int) : Ev (fun k => zaD.f k l e) (l, e) := bad_ev (by have := h.len; omega) h.fits.n e (fun _ => h.ev)
theorem MayP.own {l : List S45} (h : MayP l) : Ev (fun k => zaJ.f k l) l := own_ev l (by have := h.len; omega) h.fits.n
theorem Link_ev {l : List S45} (h : MayP l) (node dir : Int) (s : ByteArray) (now : Int) : ∃ r : List S45 × Int, Ev (fun k => tree_Link.f k l node dir s now) r ∧ (r.2 ≠ 0 → r.1 = l) ∧ (r.2 = 0 → ∃ n d : Nat, node = (n : Int) ∧ dir = (d : Int) ∧ n < l.length ∧ d < l.length ∧ (zae l (n : Int)).f0 ≠ 0 ∧ (zae l (n : Int)).f0 ≠ 2 ∧ (zae l (d : Int)).f0 = 2 ∧ zbY s = 0 ∧ (zae l (d : Int)).f4 ≠ 0 ∧ bsAt (zae l (d : Int)).f2 s = false ∧ (zae l (d : Int)).f2.length < 64 ∧ zct now ∧ r.1 = linksBy (addN l (d : Int) s (n : Int) now) (n : Int) 1) := by
 obtain ⟨p, hp, hpt⟩ := linkP_evs h [node, dir] now
 unfold tree_Link.f
 cases p with
 | false => exact ⟨_, Ev.bind hp (Ev.congr (fun _ => if_neg (by simp)) (h.bad 100)), fun _ => rfl, fun q => absurd (show (100 : Int) = 0 from q) (by decide)⟩
 | true =>
  obtain ⟨hall, ht⟩ := hpt.1 rfl
  obtain ⟨n, rfl, hn, hkn⟩ := hasB_of l node (hall node (by simp))
  obtain ⟨d, rfl, hd, hkd⟩ := hasB_of l dir (hall dir (by simp))
  have step : ∀ e : Int, Ev (fun k => linkE k l (n : Int) (d : Int) s) e → ∀ r, Ev (fun k => if e = 0 then (zaJ.f k l).bind fun u => (linkD u (n : Int) (d : Int) s now).bind fun r => some (r, 0) else zaD.f k l e) r → Ev (fun k => (linkP k l [(n : Int), (d : Int)] now).bind fun p => if p = true then (linkE k l (n : Int) (d : Int) s).bind fun e => (if e = 0 then (zaJ.f k l).bind fun u => (linkD u (n : Int) (d : Int) s now).bind fun r => some (r, 0) else zaD.f k l e) else zaD.f k l 100) r := fun e he r hr =>
   Ev.bind hp (Ev.congr (fun _ => if_pos rfl) (Ev.bind he hr))
  by_cases hk2 : (zae l (n : Int)).f0 = 2
  ·have he : Ev (fun k => linkE k l (n : Int) (d : Int) s) 63 := by
    unfold linkE
    exact Ev.congr (fun k => by rw [dir_f l n hn, Option.bind_some, if_pos (by simpa using hk2)]) (Ev.now _)
   exact ⟨_, step 63 he _ (Ev.congr (fun _ => if_neg (by decide)) (h.bad 63)), fun _ => rfl, fun q => absurd (show (63 : Int) = 0 from q) (by decide)⟩
  ·have he : Ev (fun k => linkE k l (n : Int) (d : Int) s) (roomR l d s 0) := by
    unfold linkE
    exact Ev.congr (fun k => by rw [dir_f l n hn, Option.bind_some, if_neg (by simpa using hk2)]) (Ev.bind (room_ev h d hd s 0) (Ev.now _))
   by_cases h0 : roomR l d s 0 = 0
   ·obtain ⟨a1, a2, _, a4, a5, a6⟩ := roomR_zero h0
    have hdp := (h.nodes d hd).dir a1
    refine ⟨(linksBy (addN l (d : Int) s (n : Int) now) (n : Int) 1, 0), step _ he _ (Ev.congr (fun _ => if_pos h0) (Ev.bind h.own ?_)), fun q => absurd rfl q, fun _ => ⟨n, d, rfl, rfl, hn, hd, hkn, hk2, a1, a2, a4, a5, by have := hdp.len; omega, ht, rfl⟩⟩
    unfold linkD
    rw [if_pos ⟨by omega, by omega, by omega, by omega, by have := hdp.len; omega, bs_le _ _⟩]
    exact Ev.now _
   ·exact ⟨_, step _ he _ (Ev.congr (fun _ => if_neg h0) (h.bad _)), fun _ => rfl, fun q => absurd q h0⟩
theorem gone_ev {l : List S45} (n : Nat) (hn : n < l.length) (isdir : Bool) : ∃ e : Int, Ev (fun k => zaU.f k l (n : Int) isdir) e ∧ (e = 0 ↔ if isdir = true then (zae l (n : Int)).f0 = 2 ∧ (zae l (n : Int)).f2 = [] else (zae l (n : Int)).f0 ≠ 2) ∧ e ≠ 44 := by
 have hd := dir_f l n hn
 cases isdir with
 | false =>
  by_cases hk : (zae l (n : Int)).f0 = 2
  ·refine ⟨31, ⟨2, fun k hk2 => ?_⟩, by simp [hk], by decide⟩
   obtain ⟨m, rfl⟩ : ∃ m, k = m + 1 + 1 := ⟨k - 2, by omega⟩
   show zaU.f (m + 1 + 1) l (n : Int) false = _
   unfold zaU.f
   rw [if_neg (by simp), zaU.j0, if_neg (by simp), if_neg (by simp), zaU.j1, if_neg (by simp), if_neg (by simp), hd, Option.bind_some, if_pos (by simpa using hk)]
  ·refine ⟨0, ⟨2, fun k hk2 => ?_⟩, by simp [hk], by decide⟩
   obtain ⟨m, rfl⟩ : ∃ m, k = m + 1 + 1 := ⟨k - 2, by omega⟩
   show zaU.f (m + 1 + 1) l (n : Int) false = _
   unfold zaU.f
   rw [if_neg (by simp), zaU.j0, if_neg (by simp), if_neg (by simp), zaU.j1, if_neg (by simp), if_neg (by simp), hd, Option.bind_some, if_neg (by simpa using hk)]
 | true =>
  by_cases hk : (zae l (n : Int)).f0 = 2
  ·by_cases hz : (zae l (n : Int)).f2 = []
   ·refine ⟨0, ⟨2, fun k hk2 => ?_⟩, by simp [hk, hz], by decide⟩
    obtain ⟨m, rfl⟩ : ∃ m, k = m + 1 + 1 := ⟨k - 2, by omega⟩
    show zaU.f (m + 1 + 1) l (n : Int) true = _
    unfold zaU.f
    rw [if_pos rfl, hd, Option.bind_some, zaU.j0, if_neg (by simpa using hk), if_pos rfl, if_pos (by omega), if_pos (by omega), zaU.j1, if_neg (by rw [hz]; simp), if_pos rfl]
   ·refine ⟨55, ⟨2, fun k hk2 => ?_⟩, by simp [hk, hz], by decide⟩
    obtain ⟨m, rfl⟩ : ∃ m, k = m + 1 + 1 := ⟨k - 2, by omega⟩
    show zaU.f (m + 1 + 1) l (n : Int) true = _
    unfold zaU.f
    rw [if_pos rfl, hd, Option.bind_some, zaU.j0, if_neg (by simpa using hk), if_pos rfl, if_pos (by omega), if_pos (by omega), zaU.j1, if_pos]
    rw [decide_eq_true_eq]
    have := List.length_pos_iff.2 hz
    omega
  ·refine ⟨54, ⟨2, fun k hk2 => ?_⟩, by simp [hk], by decide⟩
   obtain ⟨m, rfl⟩ : ∃ m, k = m + 1 + 1 := ⟨k - 2, by omega⟩
   show zaU.f (m + 1 + 1) l (n : Int) true = _
   unfold zaU.f
   rw [if_pos rfl, hd, Option.bind_some, zaU.j0, if_pos (by simpa using hk)]
theorem Unlink_ev {l : List S45} (h : MayP l) (dir : Int) (s : ByteArray) (isdir : Bool) (now : Int) : ∃ r : List S45 × Int, Ev (fun k => tree_Unlink.f k l dir s isdir now) r ∧ (r.2 ≠ 0 → r.1 = l) ∧
  (r.2 = 0 → ∃ n d : Nat, dir = (d : Int) ∧ n < l.length ∧ d < l.length ∧ (zae l (d : Int)).f0 = 2 ∧ zbY s = 0 ∧ (⟨s, (n : Int)⟩ : S66) ∈ (zae l (d : Int)).f2 ∧ (zae l (n : Int)).f2 = [] ∧ zct now ∧ r.1 = zbh (za3 l (d : Int) s now) (n : Int)) ∧
  (∀ n d : Nat, dir = (d : Int) → d < l.length → (zae l (d : Int)).f0 = 2 → zbY s = 0 → (⟨s, (n : Int)⟩ : S66) ∈ (zae l (d : Int)).f2 → isdir = false → (zae l (n : Int)).f0 ≠ 2 → zct now → r.2 = 0) := by
 obtain ⟨p, hp, hpt⟩ := linkP_evs h [dir] now
 unfold tree_Unlink.f
 cases p with
 | false =>
  refine ⟨_, Ev.bind hp (Ev.congr (fun _ => if_neg (by simp)) (h.bad 100)), fun _ => rfl, fun q => absurd (show (100 : Int) = 0 from q) (by decide), fun n d e hd hk _ _ _ _ ht => ?_⟩
  have : false = true := hpt.2 ⟨fun n hn => by rw [List.mem_singleton.1 hn, e]; exact hasB_nd l d hd (by rw [hk]; decide), ht⟩
  cases this
 | true =>
  obtain ⟨hall, ht⟩ := hpt.1 rfl
  obtain ⟨d, rfl, hd, hkd⟩ := hasB_of l dir (hall dir (by simp))
  have step : ∀ q : Int × Int, Ev (fun k => unlinkE k l (d : Int) s isdir) q → ∀ r, Ev (fun k => if q.2 = 0 then (zaJ.f k l).bind fun u => (unlinkD u q.1 (d : Int) s now).bind fun r => some (r, 0) else zaD.f k l q.2) r → Ev (fun k => (linkP k l [(d : Int)] now).bind fun p => if p = true then (unlinkE k l (d : Int) s isdir).bind fun q => (if q.2 = 0 then (zaJ.f k l).bind fun u => (unlinkD u q.1 (d : Int) s now).bind fun r => some (r, 0) else zaD.f k l q.2) else zaD.f k l 100) r := fun q hq r hr =>
   Ev.bind hp (Ev.congr (fun _ => if_pos rfl) (Ev.bind hq hr))
  have hf := find_ev h d hd s
  obtain ⟨fn, fe⟩ : ∃ x, x = zck l d s := ⟨_, rfl⟩
  by_cases h0 : (zck l d s).2 = 0
  ·obtain ⟨a1, a2, a3⟩ := findR_zero h hd (show zck l d s = ((zck l d s).1, 0) from Prod.ext rfl h0)
   obtain ⟨n, hn, hn0, hnl, hnk⟩ := (h.names d hd _ a3).nat
   have hn : (zck l d s).1 = (n : Int) := hn
   rw [hn] at a3
   have hdp := (h.nodes d hd).dir a1
   obtain ⟨e, he, hez, he44⟩ := gone_ev n hnl isdir (l := l)
   have hE : Ev (fun k => unlinkE k l (d : Int) s isdir) ((n : Int), e) := by
    unfold unlinkE
    refine Ev.bind hf (Ev.congr (fun _ => if_pos h0) ?_)
    rw [hn]
    exact Ev.bind he (Ev.now _)
   by_cases e0 : e = 0
   ·have hcond := hez.1 e0
    have hleaf : (zae l (n : Int)).f2 = [] := by
     cases isdir with
     | true => rw [if_pos rfl] at hcond; exact hcond.2
     | false => rw [if_neg (by simp)] at hcond; exact (h.nodes n hnl).leaf hcond
    refine ⟨(zbh (za3 l (d : Int) s now) (n : Int), 0), step _ hE _ (Ev.congr (fun _ => if_pos e0) (Ev.bind h.own ?_)), fun q => absurd rfl q, fun _ => ⟨n, d, rfl, hnl, hd, a1, a2, a3, hleaf, ht, rfl⟩, fun _ _ _ _ _ _ _ _ _ _ => rfl⟩
    unfold unlinkD
    rw [if_pos ⟨by omega, by omega, by omega, by omega, by have := hdp.len; omega, (bs_mem hdp.sorted a3).1⟩]
    exact Ev.now _
   ·refine ⟨_, step _ hE _ (Ev.congr (fun _ => if_neg e0) (h.bad _)), fun _ => rfl, fun q => absurd q e0, fun n' d' ed _ _ _ hm hi hk _ => ?_⟩
    obtain rfl : d = d' := Int.ofNat.inj ed
    have h1 := (bs_mem hdp.sorted a3).2
    rw [(bs_mem hdp.sorted hm).2] at h1
    injection h1 with _ h1
    obtain rfl : n' = n := Int.ofNat.inj h1
    exact absurd (hez.2 (by subst hi; rw [if_neg (by simp)]; exact hk)) e0
  ·have hE : Ev (fun k => unlinkE k l (d : Int) s isdir) (zck l d s) := by
    unfold unlinkE
    exact Ev.bind hf (Ev.congr (fun _ => if_neg h0) (Ev.now _))
   refine ⟨_, step _ hE _ (Ev.congr (fun _ => if_neg h0) (h.bad _)), fun _ => rfl, fun q => absurd q h0, fun n' d' ed _ hk hs hm _ _ _ => ?_⟩
   obtain rfl : d = d' := Int.ofNat.inj ed
   rw [findR_mem h hd hk hs hm] at h0
   exact absurd rfl h0
theorem makeP_evs {l : List S45} (h : MayP l) (dir kind : Int) (target : ByteArray) (now : Int) : ∃ p : Bool, Ev (fun k => makeP k l dir kind target now) p ∧ (p = true ↔ hasB l dir = true ∧ zct now ∧ 1 ≤ kind ∧ kind ≤ 3 ∧ (kind = 3 ∨ target = ⟨#[]⟩)) := by
 have hm := mayN_ev h.ev [dir]
 rw [Bool.true_and] at hm
 obtain ⟨b, hb, hbt⟩ := tree_time_ now
 have e1 : ([dir].all fun n => hasB l n) = hasB l dir := by simp
 rw [e1] at hm
 unfold makeP
 by_cases q : hasB l dir = true
 ·rw [q] at hm
  refine ⟨b && (decide (1 ≤ kind) && (decide (kind ≤ 3) && (kind == 3 || target.toList == ([] : List UInt8)))), Ev.bind hm (Ev.congr (fun _ => if_pos rfl) (Ev.congr (fun _ => by rw [hb, Option.bind_some]) (Ev.now _))), ?_⟩
  simp only [Bool.and_eq_true, Bool.or_eq_true, decide_eq_true_eq, beq_iff_eq, zb7, hbt]
  exact ⟨fun h => ⟨q, h⟩, And.right⟩
 ·rw [Bool.not_eq_true] at q
  rw [q] at hm
  exact ⟨false, Ev.bind hm (Ev.congr (fun _ => if_neg (by simp)) (Ev.now _)), ⟨fun h => by (cases h), fun h => by rw [q] at h; cases h.1⟩⟩
theorem leadsR_zero {kind : Int} {t : ByteArray} (h1 : 1 ≤ kind) (h3 : kind ≤ 3) (ht : kind = 3 ∨ t = ⟨#[]⟩) (h : leadsR kind t = 0) : KindP kind t := by
 unfold leadsR at h
 by_cases hk : kind = 3
 ·rw [if_pos hk] at h
  by_cases h4 : t = ⟨#[]⟩ ∨ (0 : UInt8) ∈ bytesOf t
  ·rw [if_pos h4] at h; exact absurd h (by decide)
  ·rw [if_neg h4] at h
   by_cases h5 : (t.size : Int) > 512
   ·rw [if_pos h5] at h; exact absurd h (by decide)
   ·exact .inr (.inr ⟨hk, fun q => h4 (.inl q), by omega, fun q => h4 (.inr q)⟩)
 ·have h6 := ht.resolve_left hk
  by_cases h7 : kind = 1
  ·exact .inl ⟨h7, h6⟩
  ·exact .inr (.inl ⟨by omega, h6⟩)
theorem Make_ev {l : List S45} (h : MayP l) (dir : Int) (s : ByteArray) (kind : Int) (target : ByteArray) (now : Int) : ∃ r : List S45 × Int × Int, Ev (fun k => zbD.f k l dir s kind target now) r ∧ (r.2.2 ≠ 0 → r.1 = l) ∧
  (r.2.2 = 0 → ∃ n d : Nat, dir = (d : Int) ∧ d < l.length ∧ (zae l (d : Int)).f0 = 2 ∧ zbY s = 0 ∧ (zae l (d : Int)).f4 ≠ 0 ∧ bsAt (zae l (d : Int)).f2 s = false ∧ (zae l (d : Int)).f2.length < 64 ∧ n ≤ l.length ∧ n < 64 ∧ (n < l.length → (zae l (n : Int)).f0 = 0) ∧ KindP kind target ∧ zct now ∧ r.2.1 = (n : Int) ∧ r.1 = addN (zbH l (n : Int) kind target now) (d : Int) s (n : Int) now) := by
 obtain ⟨p, hp, hpt⟩ := makeP_evs h dir kind target now
 unfold zbD.f
 have step : ∀ q : Int × Int, Ev (fun k => makeE k l dir s kind target now) q → ∀ r, Ev (fun k => if q.1 = 0 then (zaJ.f k l).bind fun u => (if 0 ≤ q.2 ∧ q.2 ≤ (u.length : Int) ∧ u.length ≤ 1000000 then (makeD (zbH u q.2 kind target now) dir s q.2 now).bind fun r => some (r, q.2, 0) else none) else (zaD.f k l q.1).bind fun b => some (b.1, 0, b.2)) r → Ev (fun k => (makeE k l dir s kind target now).bind fun q => if q.1 = 0 then (zaJ.f k l).bind fun u => (if 0 ≤ q.2 ∧ q.2 ≤ (u.length : Int) ∧ u.length ≤ 1000000 then (makeD (zbH u q.2 kind target now) dir s q.2 now).bind fun r => some (r, q.2, 0) else none) else (zaD.f k l q.1).bind fun b => some (b.1, 0, b.2)) r := fun q hq r hr => Ev.bind hq hr
 cases p with
 | false =>
  have hE : Ev (fun k => makeE k l dir s kind target now) (100, 0) := by
   unfold makeE
   exact Ev.bind hp (Ev.congr (fun _ => if_neg (by simp)) (Ev.now _))
  exact ⟨_, step _ hE (l, 0, 100) (Ev.congr (fun _ => if_neg (by decide)) (Ev.bind (h.bad 100) (Ev.now _))), fun _ => rfl, fun q => absurd (show (100 : Int) = 0 from q) (by decide)⟩
 | true =>
  obtain ⟨hh, ht, k1, k3, kt⟩ := hpt.1 rfl
  obtain ⟨d, rfl, hd, hkd⟩ := hasB_of l dir hh
  obtain ⟨n, hf, hn1, hn2, hn3⟩ := free_ev l h.len
  have hE : Ev (fun k => makeE k l (d : Int) s kind target now) (if roomR l d s (leadsR kind target) = 0 then (if (n : Int) = 64 then 51 else 0) else roomR l d s (leadsR kind target), (n : Int)) := by
   unfold makeE
   refine Ev.bind hp (Ev.congr (fun _ => if_pos rfl) ?_)
   unfold makeR
   exact Ev.bind hf (Ev.bind (leads_ev kind target) (Ev.bind (room_ev h d hd s _) (Ev.now _)))
  by_cases e0 : (if roomR l d s (leadsR kind target) = 0 then (if (n : Int) = 64 then (51 : Int) else 0) else roomR l d s (leadsR kind target)) = 0
  ·have e0' := e0
   by_cases r0 : roomR l d s (leadsR kind target) = 0
   ·rw [if_pos r0] at e0'
    have n64 : ¬ (n : Int) = 64 := fun q => by rw [if_pos q] at e0'; exact absurd e0' (by decide)
    obtain ⟨a1, a2, a3, a4, a5, a6⟩ := roomR_zero r0
    have hdp := (h.nodes d hd).dir a1
    have hlen := h.len
    have hnd : n ≠ d := fun q => by subst q; have := hn2 hd; omega
    refine ⟨(addN (zbH l (n : Int) kind target now) (d : Int) s (n : Int) now, (n : Int), 0), step _ hE _ (Ev.congr (fun _ => if_pos e0) (Ev.bind h.own ?_)), fun q => absurd rfl q, fun _ => ⟨n, d, rfl, hd, a1, a2, a4, a5, by have := hdp.len; omega, hn1, by omega, hn2, leadsR_zero k1 k3 kt a3, ht, rfl, rfl⟩⟩
    refine Ev.congr (fun _ => if_pos (show 0 ≤ (n : Int) ∧ (n : Int) ≤ (l.length : Int) ∧ l.length ≤ 1000000 from ⟨by omega, by omega, by omega⟩)) ?_
    change Ev (fun _ => (makeD (zbH l (n : Int) kind target now) (d : Int) s (n : Int) now).bind fun r => some (r, (n : Int), (0 : Int))) _
    have hdd := withNew_nd l n hn1 kind target now d
    rw [if_neg hnd] at hdd
    have hwl := withNew_len l n hn1 kind target now
    unfold makeD
    rw [if_pos ⟨by omega, by omega, by rw [hdd]; have := hdp.len; omega, bs_le _ _⟩]
    exact Ev.now _
   ·rw [if_neg r0] at e0'; exact absurd e0' r0
  ·exact ⟨_, step _ hE _ (Ev.congr (fun _ => if_neg e0) (Ev.bind (h.bad _) (Ev.now _))), fun _ => rfl, fun q => absurd q e0⟩
inductive Under (l : List S45) (n : Nat) : Nat → Prop
 | self : Under l n n
 | step {j m : Nat} {x : S66} (h : Under l n j) (hj : j < l.length) (hx : x ∈ (zae l (j : Int)).f2) (hm : x.f1 = (m : Int)) (hk : (zae l (m : Int)).f0 = 2) : Under l n m
theorem named_once {l : List S45} {m : Nat} (hc : cnt l m ≤ 1) {j j' : Nat} (hj : j < l.length) (hj' : j' < l.length) {x x' : S66} (hx : x ∈ (zae l (j : Int)).f2) (hx' : x' ∈ (zae l (j' : Int)).f2) (e : x.f1 = (m : Int)) (e' : x'.f1 = (m : Int)) : j = j' := by
 refine Classical.byContradiction fun hne => ?_
 have h1 : cnt (l.set j { (zae l (j : Int)) with f2 := [] }) m + cntN (zae l (j : Int)).f2 m = cnt l m + cntN [] m := cnt_set l j { (zae l (j : Int)) with f2 := [] } hj m
 have h2 : 0 < cntN (zae l (j : Int)).f2 m := cntN_pos.2 ⟨x, hx, e⟩
 have h3 : cnt (l.set j { (zae l (j : Int)) with f2 := [] }) m ≠ 0 := fun q => by
  refine cnt_zero.1 q j' (by rw [List.length_set]; exact hj') x' ?_ e'
  rw [nd_set _ _ _ hj, if_neg hne]; exact hx'
 have h4 : cntN [] m = 0 := rfl
 omega
theorem above_ex (d : Int) : ∀ (L : List S45) (i : Int), (∃ y ∈ L, ∃ x ∈ y.f2, x.f1 = d) → ∃ (j : Nat) (hj : j < L.length), above d L i = (i + (j : Int), 0) ∧ ∃ x ∈ L[j].f2, x.f1 = d
 | [], _, h => by obtain ⟨y, hy, _⟩ := h; cases hy
 | a :: L, i, h => by
  by_cases q : (a.f2.any fun n => n.f1 == d) = true
  ·obtain ⟨x, hx, e⟩ := List.any_eq_true.1 q
   exact ⟨0, by simp, by rw [above, if_pos q]; simp, x, hx, by simpa using e⟩
  ·obtain ⟨y, hy, x, hx, e⟩ := h
   have hyL : y ∈ L := by
    rcases List.mem_cons.1 hy with rfl | hy
    ·exact absurd (List.any_eq_true.2 ⟨x, hx, by simpa using e⟩) q
    ·exact hy
   obtain ⟨j, hj, h1, h2⟩ := above_ex d L (i + 1) ⟨y, hyL, x, hx, e⟩
   refine ⟨j + 1, by simpa using hj, ?_, by simpa using h2⟩
   rw [above, if_neg q, h1]
   simp; omega
theorem MayP.above {l : List S45} (h : MayP l) {m j : Nat} (hm0 : 0 < m) (hm : m < l.length) (hk : (zae l (m : Int)).f0 = 2) (hj : j < l.length) {x : S66} (hx : x ∈ (zae l (j : Int)).f2) (e : x.f1 = (m : Int)) : above (m : Int) l 0 = ((j : Int), 0) := by
 obtain ⟨j', hj', h1, y, hy, e'⟩ := above_ex (m : Int) l 0 ⟨l[j], List.getElem_mem hj, x, by rw [zb0 l j hj] at hx; exact hx, e⟩
 have h2 := h.links m hm0 hm
 have h3 := (h.dirs m hm0 hm hk).1
 have : j = j' := named_once (m := m) (by omega) hj hj' hx (by rw [zb0 l j' hj']; exact hy) e e'
 subst this
 rw [h1]; simp
theorem below_ev {l : List S45} (h : MayP l) (n : Nat) {d : Nat} (hr : Reach l d) : ∃ b : Bool, Ev (fun k => zbg.l0 k (d : Int) (n : Int) l) b ∧ (b = true ↔ Under l n d) := by
 have hself : ∀ d : Nat, d = n → ∃ b : Bool, Ev (fun k => zbg.l0 k (d : Int) (n : Int) l) b ∧ (b = true ↔ Under l n d) := fun d e => by
  subst e
  exact ⟨true, Ev.step (f := fun _ => some true) (fun k => by rw [zbg.l0, if_pos rfl]) (Ev.now _), ⟨fun _ => .self, fun _ => rfl⟩⟩
 induction hr with
 | root =>
  by_cases e : 0 = n
  ·exact hself 0 e
  ·refine ⟨false, Ev.step (f := fun _ => some false) (fun k => ?_) (Ev.now _), ⟨fun q => by (cases q), fun q => ?_⟩⟩
   ·show zbg.l0 (k + 1) ((0 : Nat) : Int) (n : Int) l = _
    rw [zbg.l0, if_neg (by omega)]
    unfold zba.f
    rw [if_pos (by omega), Option.bind_some, if_pos rfl, if_pos (by omega)]
   ·cases q with
    | self => exact absurd rfl e
    | step hu hj hx hm hk =>
     obtain ⟨m, h1, h2, _⟩ := (h.names _ hj _ hx).nat
     omega
 | @step j x hj hjl hx hd ih =>
  obtain ⟨m, hm, hm0, hml, _⟩ := (h.names j hjl x hx).nat
  rw [hm, Int.toNat_natCast]
  rw [hm] at hd
  by_cases e : m = n
  ·exact hself m e
  ·obtain ⟨b, hb, hbu⟩ := ih
   have hab := h.above hm0 hml hd hjl hx hm
   refine ⟨b, Ev.step (fun k => ?_) hb, hbu.trans ⟨fun q => .step q hjl hx hm hd, fun q => ?_⟩⟩
   ·show zbg.l0 (k + 1) (m : Int) (n : Int) l = _
    rw [zbg.l0, if_neg (by omega)]
    unfold zba.f
    rw [if_neg (by omega), hab, Option.bind_some, if_pos rfl, if_neg (by omega)]
   ·cases q with
    | self => exact absurd rfl e
    | @step j' _ x' hu hj' hx' hm' hk' =>
     have h2 := h.links m hm0 hml
     have h3 := (h.dirs m hm0 hml hd).1
     have : j' = j := named_once (m := m) (by omega) hj' hjl hx' hx hm' hm
     subst this; exact hu
def moveN (l : List S45) (d1 : Nat) (s1 : ByteArray) (d2 : Nat) (s2 : ByteArray) (n : Int) (now : Int) : List S45 := addN (za3 l (d1 : Int) s1 now) (d2 : Int) s2 n now
theorem MayP.move {l : List S45} (h : MayP l) {d1 d2 : Nat} (hd1 : d1 < l.length) (hd2 : d2 < l.length) (hk1 : (zae l (d1 : Int)).f0 = 2) (hk2 : (zae l (d2 : Int)).f0 = 2) (h4 : (zae l (d2 : Int)).f4 ≠ 0) {s1 s2 : ByteArray} (hs2 : zbY s2 = 0) {n : Nat} (hm : (⟨s1, (n : Int)⟩ : S66) ∈ (zae l (d1 : Int)).f2) (hb : bsAt (zae l (d2 : Int)).f2 s2 = false) (hl : d1 ≠ d2 → (zae l (d2 : Int)).f2.length < 64) (hu : ¬ Under l n d2) {now : Int} (ht : zct now) : MayP (moveN l d1 s1 d2 s2 (n : Int) now) := by
 obtain ⟨n', hn', hn0, hn, hk0⟩ := (h.names d1 hd1 _ hm).nat
 obtain rfl : n = n' := Int.ofNat.inj hn'
 have hdp1 := (h.nodes d1 hd1).dir hk1
 have hdp2 := (h.nodes d2 hd2).dir hk2
 have hlr : (za3 l (d1 : Int) s1 now).length = l.length := removeN_len ..
 have hlen : (moveN l d1 s1 d2 s2 (n : Int) now).length = l.length := by unfold moveN; rw [addN_len, hlr]
 have hrm := removeN_nd l d1 hd1 s1 now
 have hc : ∀ i, cnt (moveN l d1 s1 d2 s2 (n : Int) now) i = cnt l i := fun i => by
  unfold moveN; rw [addN_cnt _ _ (by omega)]
  exact removeN_cnt l d1 hd1 s1 (n : Int) now hdp1.sorted hm i
 have hrd : ∀ j : Nat, (zae (moveN l d1 s1 d2 s2 (n : Int) now) (j : Int)) = if d2 = j then { (zae (za3 l (d1 : Int) s1 now) (d2 : Int)) with f2 := insN (zae (za3 l (d1 : Int) s1 now) (d2 : Int)).f2 s2 (n : Int), f5 := now } else (zae (za3 l (d1 : Int) s1 now) (j : Int)) := fun j => by
  unfold moveN; rw [addN_nd _ _ (by omega)]
 generalize moveN l d1 s1 d2 s2 (n : Int) now = l' at *
 have hE : DirP (zae (za3 l (d1 : Int) s1 now) (d2 : Int)) ∧ bsAt (zae (za3 l (d1 : Int) s1 now) (d2 : Int)).f2 s2 = false ∧ (zae (za3 l (d1 : Int) s1 now) (d2 : Int)).f2.length < 64 := by
  rw [hrm]
  by_cases e : d1 = d2
  ·subst e
   rw [if_pos rfl]
   refine ⟨hdp1.del s1 now ht, ?_, ?_⟩
   ·show bsAt (delN (zae l (d1 : Int)).f2 s1) s2 = false
    rw [Bool.eq_false_iff]
    intro q
    obtain ⟨z, hz⟩ := (bsAt_mem (delN_sorted hdp1.sorted s1) s2).1 q
    rw [(bsAt_mem hdp1.sorted s2).2 ⟨z, delN_sub hz⟩] at hb; cases hb
   ·show (delN (zae l (d1 : Int)).f2 s1).length < 64
    have h1 := bs_mem hdp1.sorted hm
    rw [delN_len h1.1]; have := hdp1.len; omega
  ·rw [if_neg e]; exact ⟨hdp2, hb, hl e⟩
 have hsame : ∀ j : Nat, (zae l' (j : Int)).f0 = (zae l (j : Int)).f0 ∧ (zae l' (j : Int)).f4 = (zae l (j : Int)).f4 := fun j => by
  rw [hrd]
  by_cases e2 : d2 = j
  ·subst e2; rw [if_pos rfl]; show (zae (za3 l (d1 : Int) s1 now) (d2 : Int)).f0 = _ ∧ (zae (za3 l (d1 : Int) s1 now) (d2 : Int)).f4 = _
   rw [hrm]
   by_cases e1 : d1 = d2
   ·subst e1; rw [if_pos rfl]; exact ⟨rfl, rfl⟩
   ·rw [if_neg e1]; exact ⟨rfl, rfl⟩
  ·rw [if_neg e2, hrm]
   by_cases e1 : d1 = j
   ·subst e1; rw [if_pos rfl]; exact ⟨rfl, rfl⟩
   ·rw [if_neg e1]; exact ⟨rfl, rfl⟩
 have hrest : ∀ j : Nat, ∀ x ∈ (zae l (j : Int)).f2, x.f1 ≠ (n : Int) → x ∈ (zae (za3 l (d1 : Int) s1 now) (j : Int)).f2 := fun j x hx hne => by
  rw [hrm]
  by_cases e1 : d1 = j
  ·subst e1; rw [if_pos rfl]
   refine (delN_mem hdp1.sorted hm).2 ⟨hx, fun es => hne ?_⟩
   have h1 := (bs_mem hdp1.sorted hm).2
   have h2 := (bs_mem (n := x.f1) hdp1.sorted (show (⟨s1, x.f1⟩ : S66) ∈ (zae l (d1 : Int)).f2 by rw [← es]; exact hx)).2
   rw [h1] at h2
   injection h2 with _ h3
   exact h3.symm
  ·rw [if_neg e1]; exact hx
 have hsub : ∀ j : Nat, ∀ x ∈ (zae l (j : Int)).f2, x.f1 ≠ (n : Int) → x ∈ (zae l' (j : Int)).f2 := fun j x hx hne => by
  have h1 := hrest j x hx hne
  rw [hrd]
  by_cases e2 : d2 = j
  ·subst e2; rw [if_pos rfl]; exact insN_mem.2 (.inr h1)
  ·rw [if_neg e2]; exact h1
 have hback : ∀ j : Nat, ∀ x ∈ (zae (za3 l (d1 : Int) s1 now) (j : Int)).f2, x ∈ (zae l (j : Int)).f2 := fun j x hx => by
  rw [hrm] at hx
  by_cases e1 : d1 = j
  ·subst e1; rw [if_pos rfl] at hx; exact delN_sub hx
  ·rw [if_neg e1] at hx; exact hx
 have hnew : (⟨s2, (n : Int)⟩ : S66) ∈ (zae l' (d2 : Int)).f2 := by rw [hrd, if_pos rfl]; exact insN_mem.2 (.inl rfl)
 have hfar : ∀ i, Reach l i → ¬ Under l n i → Reach l' i := fun i hr => by
  induction hr with
  | root => exact fun _ => .root
  | @step j x hj hjl hx hd ih =>
   intro hnu
   obtain ⟨m, hm', hm0, hml, _⟩ := (h.names j hjl x hx).nat
   rw [hm', Int.toNat_natCast] at hnu
   rw [hm'] at hd
   have hj' := ih fun q => hnu (.step q hjl hx hm' hd)
   have hmn : m ≠ n := fun q => hnu (by rw [q]; exact .self)
   have := Reach.step hj' (by omega) (hsub j x hx (by omega)) (by rw [hm', (hsame m).1]; exact hd)
   exact this
 have hnear : (zae l (n : Int)).f0 = 2 → ∀ i, Under l n i → Reach l' i := fun hkn i hi => by
  have hrn : Reach l' n := by
   have := Reach.step (hfar d2 (h.reach hd2 hk2 h4) hu) (by omega) hnew (by rw [(hsame n).1]; exact hkn)
   rwa [Int.toNat_natCast] at this
  induction hi with
  | self => exact hrn
  | @step j m x hu' hj hx hm' hk ih =>
   by_cases e : m = n
   ·rw [e]; exact hrn
   ·have := Reach.step ih (by omega) (hsub j x hx (by omega)) (by rw [hm', (hsame m).1]; exact hk)
    rw [hm', Int.toNat_natCast] at this; exact this
 have hreach : ∀ i, Reach l i → (zae l (i : Int)).f0 = 2 → Reach l' i := fun i hr hki => by
  by_cases q : Under l n i
  ·by_cases hkn : (zae l (n : Int)).f0 = 2
   ·exact hnear hkn i q
   ·exfalso
    have hleaf := (h.nodes n hn).leaf hkn
    have : ∀ i, Under l n i → i = n := fun i hi => by
     induction hi with
     | self => rfl
     | step _ _ hx _ _ ih => rw [ih] at hx; rw [hleaf] at hx; cases hx
    rw [this i q] at hki; exact hkn hki
  ·exact hfar i hr q
 refine h.edit hlen (fun j _ => (hsame j).1) (by rw [(hsame 0).2]; exact h.l0) (fun j hj => ?_) (fun j hj x hx => ?_) (fun i h0 hi => by rw [(hsame i).2, hc]; exact h.links i h0 hi) (fun i h0 hi hki => ?_)
 ·rw [hrd]
  by_cases e2 : d2 = j
  ·subst e2; rw [if_pos rfl]
   have hk : (zae (za3 l (d1 : Int) s1 now) (d2 : Int)).f0 = 2 := by
    rw [hrm]
    by_cases e1 : d1 = d2
    ·subst e1; rw [if_pos rfl]; exact hk1
    ·rw [if_neg e1]; exact hk2
   exact (hE.1.ins hs2 hE.2.1 hE.2.2 _ _ ht).node hk
  ·rw [if_neg e2, hrm]
   by_cases e1 : d1 = j
   ·subst e1; rw [if_pos rfl]; exact (hdp1.del s1 now ht).node hk1
   ·rw [if_neg e1]; exact h.nodes j hj
 ·rw [hrd] at hx
  by_cases e2 : d2 = j
  ·subst e2; rw [if_pos rfl] at hx
   rcases insN_mem.1 hx with rfl | hx
   ·exact nameIn_of rfl hn0 hn hk0
   ·exact h.names d2 hd2 x (hback d2 x hx)
  ·rw [if_neg e2] at hx; exact h.names j hj x (hback j x hx)
 ·have hD := h.dirs i h0 hi hki
  rw [(hsame i).2]
  refine ⟨hD.1, fun q => ?_, fun q => hreach i (hD.2.2 q) hki⟩
  have hz := hD.2.1 q
  have e1 : d1 ≠ i := fun e => by subst e; rw [hz] at hm; cases hm
  have e2 : d2 ≠ i := fun e => by subst e; exact h4 q
  rw [hrd, if_neg e2, hrm, if_neg e1]; exact hz
theorem Under.sub {l l' : List S45} {n : Nat} (hlen : l'.length = l.length) (hs : ∀ j : Nat, ∀ x ∈ (zae l' (j : Int)).f2, x ∈ (zae l (j : Int)).f2) (hk : ∀ m : Nat, (zae l' (m : Int)).f0 = (zae l (m : Int)).f0) {i : Nat} (h : Under l' n i) : Under l n i := by
 induction h with
 | self => exact .self
 | step _ hj hx hm hk' ih => exact .step ih (by omega) (hs _ _ hx) hm (by rw [← hk]; exact hk')
theorem moves_ev {l : List S45} (h : MayP l) {n d1 d2 : Nat} (hn : n < l.length) (hd2 : d2 < l.length) (hr : Reach l d2) (old : Int) (ho : ∀ o : Nat, old = (o : Int) → o < l.length) (s2 : ByteArray) : ∃ e : Int, Ev (fun k => za2.f k l (n : Int) (d1 : Int) (d2 : Int) old s2) e ∧
  (e = 0 ↔ ¬ ((zae l (n : Int)).f0 = 2 ∧ Under l n d2) ∧ (∀ o : Nat, old = (o : Int) → if (zae l (n : Int)).f0 = 2 then (zae l (o : Int)).f0 = 2 ∧ (zae l (o : Int)).f2 = [] else (zae l (o : Int)).f0 ≠ 2) ∧ (old < 0 → d1 ≠ d2 → (zae l (d2 : Int)).f2.length ≠ 64)) := by
 obtain ⟨b, hb, hbu⟩ := below_ev h n hr
 have hj : ∀ f : Bool, ∃ e : Int, Ev (fun k => za2.j0 k (n : Int) (d1 : Int) (d2 : Int) old f l) e ∧ (e = 0 ↔ f = false ∧ (∀ o : Nat, old = (o : Int) → if (zae l (n : Int)).f0 = 2 then (zae l (o : Int)).f0 = 2 ∧ (zae l (o : Int)).f2 = [] else (zae l (o : Int)).f0 ≠ 2) ∧ (old < 0 → d1 ≠ d2 → (zae l (d2 : Int)).f2.length ≠ 64)) := by
  intro f
  cases f with
  | true =>
   refine ⟨28, Ev.step (f := fun _ => some 28) (fun k => ?_) (Ev.now _), ⟨fun q => absurd q (by decide), fun q => by (cases q.1)⟩⟩
   show za2.j0 (k + 1) (n : Int) (d1 : Int) (d2 : Int) old true l = _
   rw [za2.j0, if_pos rfl]
  | false =>
   by_cases q : 0 ≤ old
   ·obtain ⟨o, rfl⟩ : ∃ o : Nat, old = (o : Int) := ⟨old.toNat, by omega⟩
    have hol := ho o rfl
    obtain ⟨e, he, hez, _⟩ := gone_ev (l := l) o hol ((zae l (n : Int)).f0 == 2)
    refine ⟨e, Ev.step (f := fun k => (zaU.f k l (o : Int) ((zae l (n : Int)).f0 == 2)).bind fun t => some t) (fun k => ?_) (Ev.bind he (Ev.now _)), hez.trans ?_⟩
    ·show za2.j0 (k + 1) (n : Int) (d1 : Int) (d2 : Int) (o : Int) false l = _
     rw [za2.j0, if_neg (by simp), if_pos (by omega), dir_f l n hn, Option.bind_some]
    ·simp only [beq_iff_eq]
     constructor
     ·exact fun h1 => ⟨trivial, fun o' e' => by obtain rfl : o = o' := Int.ofNat.inj e'; exact h1, fun h2 => by omega⟩
     ·exact fun h1 => h1.2.1 o rfl
   ·have hp : ∀ x : Option Int, (if 0 ≤ (d2 : Int) then (if (d2 : Int) < (l.length : Int) then x else none) else none) = x := fun x => by rw [if_pos (by omega), if_pos (by omega)]
    by_cases q2 : (zae l (d2 : Int)).f2.length = 64
    ·by_cases q3 : d1 = d2
     ·refine ⟨0, Ev.step (f := fun _ => some 0) (fun k => ?_) (Ev.now _), ⟨fun _ => ⟨rfl, fun o e => by omega, fun _ h2 => absurd q3 h2⟩, fun _ => rfl⟩⟩
      show za2.j0 (k + 1) (n : Int) (d1 : Int) (d2 : Int) old false l = _
      rw [za2.j0, if_neg (by simp), if_neg (by omega), hp, if_pos (by omega), if_pos (by omega)]
     ·refine ⟨51, Ev.step (f := fun _ => some 51) (fun k => ?_) (Ev.now _), ⟨fun h1 => absurd h1 (by decide), fun h1 => absurd q2 (h1.2.2 (by omega) q3)⟩⟩
      show za2.j0 (k + 1) (n : Int) (d1 : Int) (d2 : Int) old false l = _
      rw [za2.j0, if_neg (by simp), if_neg (by omega), hp, if_pos (by omega), if_neg (by omega)]
    ·refine ⟨0, Ev.step (f := fun _ => some 0) (fun k => ?_) (Ev.now _), ⟨fun _ => ⟨rfl, fun o e => by omega, fun _ _ => q2⟩, fun _ => rfl⟩⟩
     show za2.j0 (k + 1) (n : Int) (d1 : Int) (d2 : Int) old false l = _
     rw [za2.j0, if_neg (by simp), if_neg (by omega), hp, if_neg (by omega)]
 by_cases hk : (zae l (n : Int)).f0 = 2
 ·obtain ⟨e, he, hez⟩ := hj b
  refine ⟨e, Ev.congr (fun k => by unfold za2.f; rw [dir_f l n hn, Option.bind_some, if_pos (by simpa using hk)]) (Ev.bind (show Ev (fun k => zbg.f k l (d2 : Int) (n : Int)) b from hb) he), hez.trans (and_congr_left fun _ => ?_)⟩
  rw [Bool.eq_false_iff, Ne, hbu]
  exact ⟨fun h1 h2 => h1 h2.2, fun h1 h2 => h1 ⟨hk, h2⟩⟩
 ·obtain ⟨e, he, hez⟩ := hj false
  refine ⟨e, Ev.congr (fun k => by unfold za2.f; rw [dir_f l n hn, Option.bind_some, if_neg (by simpa using hk)]) he, hez.trans (and_congr_left fun _ => ?_)⟩
  exact ⟨fun _ h2 => hk h2.1, fun _ => rfl⟩
theorem same_name {ns : List S66} (hs : Sorted ns) {s : ByteArray} {a b : Int} (h1 : (⟨s, a⟩ : S66) ∈ ns) (h2 : (⟨s, b⟩ : S66) ∈ ns) : a = b := by
 have e1 := (bs_mem hs h1).2
 rw [(bs_mem hs h2).2] at e1
 injection e1 with _ e; exact e.symm
theorem renD_ok {u : List S45} {v : List S45} {n : Int} {old : Int} {d1 d2 : Nat} {s1 s2 : ByteArray} {now : Int} (hd1 : d1 < u.length) (hd2 : d2 < u.length) (hol : old < (u.length : Int)) (hv : renU u old (d2 : Int) s2 now = v) (hvl : v.length = u.length) (h1 : (zae u (d2 : Int)).f2.length ≤ 64) (h2 : 0 ≤ old → bs (zae u (d2 : Int)).f2 s2 < (zae u (d2 : Int)).f2.length) (hs : Sorted (zae v (d1 : Int)).f2) (h3 : (zae v (d1 : Int)).f2.length ≤ 64) (h3' : (zae v (d2 : Int)).f2.length ≤ 64) (hm : (⟨s1, n⟩ : S66) ∈ (zae v (d1 : Int)).f2) :
  renD u n old (d1 : Int) s1 (d2 : Int) s2 now = some (moveN v d1 s1 d2 s2 n now) := by
 have hb := (bs_mem hs hm).1
 have hr : (zae (za3 v (d1 : Int) s1 now) (d2 : Int)).f2.length ≤ 64 := by
  rw [removeN_nd v d1 (by omega)]
  by_cases e : d1 = d2
  ·subst e; rw [if_pos rfl]; show (delN _ _).length ≤ 64; rw [delN_len hb]; omega
  ·rw [if_neg e]; exact h3'
 unfold renD
 rw [hv, if_pos ⟨by omega, by omega, by omega, by omega, hol, fun q => ⟨by omega, h2 q⟩, by omega, hb, by omega, bs_le _ _⟩]
 rfl
theorem Rename_ev {l : List S45} (h : MayP l) (d1 : Int) (s1 : ByteArray) (d2 : Int) (s2 : ByteArray) (now : Int) : ∃ r : List S45 × Int, Ev (fun k => tree_Rename.f k l d1 s1 d2 s2 now) r ∧ (r.2 ≠ 0 → r.1 = l) ∧ (r.2 = 0 → MayP r.1) ∧
  (∀ a b n : Nat, d1 = (a : Int) → d2 = (b : Int) → a < l.length → b < l.length → (zae l (a : Int)).f0 = 2 → (zae l (b : Int)).f0 = 2 → (⟨s1, (n : Int)⟩ : S66) ∈ (zae l (a : Int)).f2 → (zae l (n : Int)).f0 ≠ 2 → zbY s2 = 0 → bsAt (zae l (b : Int)).f2 s2 = false →
   (r.2 = 0 → r.1 = moveN l a s1 b s2 (n : Int) now ∧ (zae l (b : Int)).f4 ≠ 0 ∧ zct now) ∧ ((zae l (b : Int)).f4 ≠ 0 → zct now → a = b → r.2 = 0)) := by
 obtain ⟨p, hp, hpt⟩ := linkP_evs h [d1, d2] now
 have hlen := h.len
 unfold tree_Rename.f
 cases p with
 | false =>
  refine ⟨_, Ev.bind hp (Ev.congr (fun _ => if_neg (by simp)) (h.bad 100)), fun _ => rfl, fun q => absurd (show (100 : Int) = 0 from q) (by decide), fun a b n ea eb ha hb hka hkb _ _ _ _ => ⟨fun q => absurd (show (100 : Int) = 0 from q) (by decide), fun _ ht _ => ?_⟩⟩
  have : false = true := hpt.2 ⟨fun x hx => by
   rcases List.mem_cons.1 hx with rfl | hx
   ·rw [ea]; exact hasB_nd l a ha (by rw [hka]; decide)
   ·rw [List.mem_singleton.1 hx, eb]; exact hasB_nd l b hb (by rw [hkb]; decide), ht⟩
  cases this
 | true =>
  obtain ⟨hall, ht⟩ := hpt.1 rfl
  obtain ⟨a, rfl, ha, hka0⟩ := hasB_of l d1 (hall d1 (by simp))
  obtain ⟨b, rfl, hb, hkb0⟩ := hasB_of l d2 (hall d2 (by simp))
  have hf1 := find_ev h a ha s1
  have hf2 := find_ev h b hb s2
  have step1 : ∀ r : List S45 × Int, Ev (fun k => if (zck l a s1).2 = 0 then (zbz.f k l (b : Int) s2).bind fun q2 => (if q2.2 = 44 then renB k l (zck l a s1).1 (-1) (a : Int) s1 (b : Int) s2 now else if q2.2 = 0 then renB k l (zck l a s1).1 q2.1 (a : Int) s1 (b : Int) s2 now else zaD.f k l q2.2) else zaD.f k l (zck l a s1).2) r → Ev (fun k => (linkP k l [(a : Int), (b : Int)] now).bind fun p => if p = true then (zbz.f k l (a : Int) s1).bind fun q => (if q.2 = 0 then (zbz.f k l (b : Int) s2).bind fun q2 => (if q2.2 = 44 then renB k l q.1 (-1) (a : Int) s1 (b : Int) s2 now else if q2.2 = 0 then renB k l q.1 q2.1 (a : Int) s1 (b : Int) s2 now else zaD.f k l q2.2) else zaD.f k l q.2) else zaD.f k l 100) r := fun r hr => Ev.bind hp (Ev.congr (fun _ => if_pos rfl) (Ev.bind hf1 hr))
  by_cases e1 : (zck l a s1).2 = 0
  ·obtain ⟨hka, hs1, hm0⟩ := findR_zero h ha (show zck l a s1 = ((zck l a s1).1, 0) from Prod.ext rfl e1)
   obtain ⟨n, hn, hn0, hnl, hnk⟩ := (h.names a ha _ hm0).nat
   have hn : (zck l a s1).1 = (n : Int) := hn
   rw [hn] at hm0
   have hda := (h.nodes a ha).dir hka
   rw [hn] at step1
   have step2 : ∀ r : List S45 × Int, Ev (fun k => if (zck l b s2).2 = 44 then renB k l (n : Int) (-1) (a : Int) s1 (b : Int) s2 now else if (zck l b s2).2 = 0 then renB k l (n : Int) (zck l b s2).1 (a : Int) s1 (b : Int) s2 now else zaD.f k l (zck l b s2).2) r → Ev (fun k => (linkP k l [(a : Int), (b : Int)] now).bind fun p => if p = true then (zbz.f k l (a : Int) s1).bind fun q => (if q.2 = 0 then (zbz.f k l (b : Int) s2).bind fun q2 => (if q2.2 = 44 then renB k l q.1 (-1) (a : Int) s1 (b : Int) s2 now else if q2.2 = 0 then renB k l q.1 q2.1 (a : Int) s1 (b : Int) s2 now else zaD.f k l q2.2) else zaD.f k l q.2) else zaD.f k l 100) r := fun r hr => step1 r (Ev.congr (fun _ => if_pos e1) (Ev.bind hf2 hr))
   have last : ∀ old : Int, (zae l (b : Int)).f0 = 2 → zbY s2 = 0 → ((old = -1 ∧ bsAt (zae l (b : Int)).f2 s2 = false) ∨ ∃ o : Nat, old = (o : Int) ∧ o < l.length ∧ (⟨s2, (o : Int)⟩ : S66) ∈ (zae l (b : Int)).f2) → ∃ r : List S45 × Int, Ev (fun k => renB k l (n : Int) old (a : Int) s1 (b : Int) s2 now) r ∧ (r.2 ≠ 0 → r.1 = l) ∧ (r.2 = 0 → MayP r.1) ∧ (old = -1 → (zae l (n : Int)).f0 ≠ 2 → (r.2 = 0 → r.1 = moveN l a s1 b s2 (n : Int) now ∧ (zae l (b : Int)).f4 ≠ 0) ∧ ((zae l (b : Int)).f4 ≠ 0 → a = b → r.2 = 0)) := by
    intro old hkb hs2 hold
    have hdb := (h.nodes b hb).dir hkb
    have hin : ∀ x : Option (List S45 × Int), (if 0 ≤ (b : Int) ∧ (b : Int) < (l.length : Int) then x else none) = x := fun x => if_pos ⟨by omega, by omega⟩
    by_cases z4 : (zae l (b : Int)).f4 = 0
    ·exact ⟨_, Ev.congr (fun k => by unfold renB; rw [hin, if_pos z4]) (h.bad 44), fun _ => rfl, fun q => absurd (show (44 : Int) = 0 from q) (by decide), fun _ _ => ⟨fun q => absurd (show (44 : Int) = 0 from q) (by decide), fun q => absurd z4 q⟩⟩
    ·by_cases zo : old = (n : Int)
     ·exact ⟨(l, 0), Ev.congr (fun k => by unfold renB; rw [hin, if_neg z4, if_pos zo]) (Ev.bind h.own (Ev.now _)), fun q => absurd rfl q, fun _ => h, fun q => by omega⟩
     ·have hr := h.reach hb hkb z4
      obtain ⟨e, he, hez⟩ := moves_ev (d1 := a) h hnl hb hr old (fun o eo => by
       rcases hold with ⟨q, _⟩ | ⟨o', q, q2, _⟩
       ·omega
       ·omega) s2
      by_cases e0 : e = 0
      ·obtain ⟨c1, c2, c3⟩ := hez.1 e0
       have hgo : ∀ v : List S45, renD l (n : Int) old (a : Int) s1 (b : Int) s2 now = some v → Ev (fun k => renB k l (n : Int) old (a : Int) s1 (b : Int) s2 now) (v, 0) := fun v hv => Ev.congr (fun k => by unfold renB; rw [hin, if_neg z4, if_neg zo]) (Ev.bind he (Ev.congr (fun _ => if_pos e0) (Ev.bind h.own (Ev.congr (fun _ => by rw [hv]; rfl) (Ev.now (v, (0 : Int)))))))
       have hnu : ¬ Under l n b := fun hu => by
        by_cases hkn : (zae l (n : Int)).f0 = 2
        ·exact c1 ⟨hkn, hu⟩
        ·have hleaf := (h.nodes n hnl).leaf hkn
         have : ∀ i, Under l n i → i = n := fun i hi => by
          induction hi with
          | self => rfl
          | step _ _ hx _ _ ih => rw [ih] at hx; rw [hleaf] at hx; cases hx
         rw [this b hu] at hkb; exact hkn hkb
       rcases hold with ⟨rfl, hat⟩ | ⟨o, rfl, hol, hmo⟩
       ·have hv : renU l (-1) (b : Int) s2 now = l := if_neg (by decide)
        have hrd := renD_ok (n := (n : Int)) (old := -1) (s1 := s1) ha hb (by omega) hv rfl hdb.len (fun q => absurd q (by decide)) hda.sorted hda.len hdb.len hm0
        refine ⟨_, hgo _ hrd, fun q => absurd rfl q, fun _ => ?_, fun _ _ => ⟨fun _ => ⟨rfl, z4⟩, fun _ _ => rfl⟩⟩
        refine h.move ha hb hka hkb z4 hs2 hm0 hat (fun hne => ?_) hnu ht
        have := hdb.len; have := c3 (by decide) hne; omega
       ·have hon : o ≠ n := fun q => zo (by rw [q])
        have hoc := c2 o rfl
        have hleaf : (zae l (o : Int)).f2 = [] := by
         by_cases hkn : (zae l (n : Int)).f0 = 2
         ·rw [if_pos hkn] at hoc; exact hoc.2
         ·rw [if_neg hkn] at hoc; exact (h.nodes o hol).leaf hoc
        have hu := h.unlink hb hkb hmo hleaf ht
        have hbo : b ≠ o := fun q => by subst q; rw [hleaf] at hmo; cases hmo
        have hnd : ∀ j : Nat, (zae (zbh (za3 l (b : Int) s2 now) (o : Int)) (j : Int)).f0 = (zae l (j : Int)).f0 ∧ (zae (zbh (za3 l (b : Int) s2 now) (o : Int)) (j : Int)).f2 = (if b = j then delN (zae l (b : Int)).f2 s2 else (zae l (j : Int)).f2) ∧ (j ≠ o → (zae (zbh (za3 l (b : Int) s2 now) (o : Int)) (j : Int)).f4 = (zae l (j : Int)).f4) := fun j => by
         rw [linksDown_nd _ _ (by rw [removeN_len]; exact hol), removeN_nd l b hb, removeN_nd l b hb]
         by_cases q : o = j
         ·subst q; rw [if_pos rfl, if_neg hbo]; exact ⟨rfl, by rw [if_neg hbo], fun q => absurd rfl q⟩
         ·rw [if_neg q]
          by_cases q2 : b = j
          ·subst q2; rw [if_pos rfl, if_pos rfl]; exact ⟨rfl, rfl, fun _ => rfl⟩
          ·rw [if_neg q2, if_neg q2]; exact ⟨rfl, rfl, fun _ => rfl⟩
        have hvl : (zbh (za3 l (b : Int) s2 now) (o : Int)).length = l.length := by rw [linksDown_len, removeN_len]
        have hv : renU l (o : Int) (b : Int) s2 now = zbh (za3 l (b : Int) s2 now) (o : Int) := if_pos (by omega)
        generalize zbh (za3 l (b : Int) s2 now) (o : Int) = v at *
        have hkva : (zae v (a : Int)).f0 = 2 := by rw [(hnd a).1]; exact hka
        have hkvb : (zae v (b : Int)).f0 = 2 := by rw [(hnd b).1]; exact hkb
        have hva := (hu.nodes a (by omega)).dir hkva
        have hvb := (hu.nodes b (by omega)).dir hkvb
        have hmv : (⟨s1, (n : Int)⟩ : S66) ∈ (zae v (a : Int)).f2 := by
         rw [(hnd a).2.1]
         by_cases q : b = a
         ·subst q; rw [if_pos rfl]
          refine (delN_mem hdb.sorted hmo).2 ⟨hm0, fun q2 => hon ?_⟩
          have q2 : s1 = s2 := q2
          rw [q2] at hm0
          exact Int.ofNat.inj (same_name hdb.sorted hmo hm0)
         ·rw [if_neg q]; exact hm0
        have hrd := renD_ok (n := (n : Int)) (s1 := s1) ha hb (by omega) hv hvl hdb.len (fun _ => (bs_mem hdb.sorted hmo).1) hva.sorted hva.len hvb.len hmv
        refine ⟨_, hgo _ hrd, fun q => absurd rfl q, fun _ => ?_, fun q => by omega⟩
        refine hu.move (by omega) (by omega) hkva hkvb (by rw [(hnd b).2.2 hbo]; exact z4) hs2 hmv ?_ (fun _ => ?_) (fun q => hnu (q.sub hvl (fun j x hx => ?_) (fun m => (hnd m).1))) ht
        ·rw [(hnd b).2.1, if_pos rfl, Bool.eq_false_iff]
         intro q
         obtain ⟨z, hz⟩ := (bsAt_mem (delN_sorted hdb.sorted s2) s2).1 q
         exact ((delN_mem hdb.sorted hmo).1 hz).2 rfl
        ·rw [(hnd b).2.1, if_pos rfl, delN_len (bs_mem hdb.sorted hmo).1]
         have := hdb.len; have := (bs_mem hdb.sorted hmo).1; omega
        ·rw [(hnd j).2.1] at hx
         by_cases q : b = j
         ·subst q; rw [if_pos rfl] at hx; exact delN_sub hx
         ·rw [if_neg q] at hx; exact hx
      ·exact ⟨_, Ev.congr (fun k => by unfold renB; rw [hin, if_neg z4, if_neg zo]) (Ev.bind he (Ev.congr (fun _ => if_neg e0) (h.bad e))), fun _ => rfl, fun q => absurd q e0, fun q hkn => ⟨fun q => absurd q e0, fun _ hab => (hez.2 ⟨fun q2 => hkn q2.1, fun o eo => by omega, fun _ q2 => absurd hab q2⟩)⟩⟩
   by_cases e44 : (zck l b s2).2 = 44
   ·obtain ⟨hkb, hs2, hat⟩ := findR_44 (show zck l b s2 = ((zck l b s2).1, 44) from Prod.ext rfl e44)
    obtain ⟨r, h1, h2, h3, h4⟩ := last (-1) hkb hs2 (.inl ⟨rfl, hat⟩)
    refine ⟨r, step2 r (Ev.congr (fun _ => if_pos e44) h1), h2, h3, fun a' b' n' ea eb _ _ _ _ hm' hkn' _ _ => ?_⟩
    obtain rfl : a = a' := Int.ofNat.inj ea
    obtain rfl : b = b' := Int.ofNat.inj eb
    obtain rfl : n = n' := Int.ofNat.inj (same_name hda.sorted hm0 hm')
    obtain ⟨h5, h6⟩ := h4 rfl hkn'
    exact ⟨fun q => ⟨(h5 q).1, (h5 q).2, ht⟩, fun q _ q2 => h6 q q2⟩
   ·by_cases e0 : (zck l b s2).2 = 0
    ·obtain ⟨hkb, hs2, hmo⟩ := findR_zero h hb (show zck l b s2 = ((zck l b s2).1, 0) from Prod.ext rfl e0)
     obtain ⟨o, ho, ho0, hol, hok⟩ := (h.names b hb _ hmo).nat
     have ho : (zck l b s2).1 = (o : Int) := ho
     rw [ho] at hmo
     obtain ⟨r, h1, h2, h3, h4⟩ := last (o : Int) hkb hs2 (.inr ⟨o, rfl, hol, hmo⟩)
     refine ⟨r, step2 r (Ev.congr (fun _ => by rw [if_neg e44, if_pos e0, ho]) h1), h2, h3, fun a' b' n' ea eb _ _ _ _ _ _ _ hat => ?_⟩
     obtain rfl : b = b' := Int.ofNat.inj eb
     rw [(bsAt_mem ((h.nodes b hb).dir hkb).sorted s2).2 ⟨_, hmo⟩] at hat; cases hat
    ·refine ⟨_, step2 _ (Ev.congr (fun _ => by rw [if_neg e44, if_neg e0]) (h.bad _)), fun _ => rfl, fun q => absurd q e0, fun a' b' n' ea eb _ _ _ hkb _ _ hs2 hat => ?_⟩
     obtain rfl : b = b' := Int.ofNat.inj eb
     rw [findR_no hkb hs2 hat] at e44
     exact absurd rfl e44
  ·refine ⟨_, step1 _ (Ev.congr (fun _ => if_neg e1) (h.bad _)), fun _ => rfl, fun q => absurd q e1, fun a' b' n' ea eb _ _ hka _ hm' _ _ _ => ?_⟩
   obtain rfl : a = a' := Int.ofNat.inj ea
   have hda := (h.nodes a ha).dir hka
   rw [findR_mem h ha hka (hda.ok _ hm') hm'] at e1
   exact absurd rfl e1
def tree_Check.f (k : Nat) (l0_0 : List (S45)) : Option (Int) := (zaG.f k l0_0).bind fun t171 => (if t171 = true then (some 0) else (some 100))
set_option maxHeartbeats 8000000 in
set_option maxRecDepth 100000 in
theorem tree_Check.calls (k : Nat) (A0_0 : Option Addr) (c0_0 : Nat) (l0_0 : List (S45)) (r : Int) (w : World) (hr0_0 : Kd.C k45 w A0_0 l0_0.length l0_0) (hc0_0 : l0_0.length ≤ c0_0) (h : tree_Check.f k l0_0 = some r) :
  Calls Try.prog 11 #[.agg #[.slice A0_0 l0_0.length c0_0]] w fun e w' => e = .returned (.int .i64 r) ∧ Below w.heap.size w w' := by
 have hu24 := Try.underlying24
 have HR0_0 := zaa.mk hr0_0
 have HC0_0 := zaa.mk hc0_0
 clear hr0_0 hc0_0
 have HB := zaa.mk (Below.refl w.heap.size w)
 have H : ((zaG.f k l0_0).bind fun t171 => (if t171 = true then (some 0) else (some 100))) = some r := h
 clear h
 replace H := Option.bind_eq_some_iff.mp H
 obtain ⟨t171, A20, H⟩ := H
 replace H : (if t171 = true then (some 0) else (some 100)) = some r := H
 have A2 := zaa.mk A20
 clear A20
 by_cases c3 : t171 = true
 ·subst c3
  have H1 : (some 0) = some r := by rw [if_pos rfl] at H; exact H
  clear H
  have H := H1
  clear H1
  obtain rfl := Option.some.inj H
  go_enter Try.func11, Try.ntmps11
  go_wp2_with (first | ((with_reducible refine zaT (N := 1) rfl ?_); refine zaN ?hg (N := 1) ?hd (cs := #[.slice A0_0 l0_0.length c0_0]) (t := 24) ?hr ?_; (case hd => rfl); (case hg => rfl); (case hr => first | (go_simp; done) | (go_simp; rfl)); intro gb170 hg w4 hbox hb; have n0_ := zaa.mk (zai (by repeat (first | (with_reducible first | exact HB.out | apply zac | apply zab | apply zad) | exact HB.out)) hb); have n1_ := zaa.mk (hbox); have n2_ := zaa.mk ((by rw [hg]; exact (zao (by repeat (first | (with_reducible first | exact HB.out | apply zac | apply zab | apply zad) | exact HB.out))) : w.heap.size ≤ gb170)); have n3_ := zaa.mk ((by rw [hg]; exact (zao (by repeat (first | (with_reducible first | exact HB.out | apply zac | apply zab | apply zad) | exact HB.out))) : w.heap.size ≤ gb170)); clear HB; have HB := n0_; have BK170 := n1_; have GW170 := n2_; have GE170 := n3_; clear n0_ n1_ n2_ n3_; clear hb hbox hg; have hcz5_0 : w4.cell? ⟨gb170, 0, none⟩ = some (.slice A0_0 l0_0.length c0_0) := (zah BK170.out 0).trans rfl; have hfz5_0 := zaf BK170.out 0) | ((with_reducible refine zaW (f := 33) rfl ?_); refine zbE (some 4) rfl rfl Try.func33 (by kernel_rfl) rfl #[.agg #[.slice A0_0 l0_0.length c0_0]] rfl (by (try simp only [List.map_toArray, List.map_cons, List.map_nil]); first | done | rfl | (simp only [List.length_drop, List.length_take]; rfl)) ?_; (with_reducible refine (zaG.calls k _ _ l0_0 true _ ?side1 ?side2 A2.out).mono ?_); (case side1 => repeat (first | exact (Kd.C_below HR0_0.out HB.out) | (with_reducible refine Kd.C_alloc ?_ _) | (with_reducible refine Kd.C_drewN ?_ _) | (with_reducible refine Kd.C_drew ?_))); (case side2 => exact HC0_0.out); rintro e w6 ⟨rfl, hb⟩; refine ⟨_, rfl, ?_⟩; have n0_ := zaa.mk (zaq (g := gb170) (o := .cells #[.slice A0_0 l0_0.length c0_0] 24 (0, 0)) (by (with_reducible repeat (first | refine zak ?_ _ | refine zam ?_ | refine zaj ?_ _)); exact BK170.out) hb); have n1_ := zaa.mk (zai (by repeat (first | (with_reducible first | exact HB.out | apply zac | apply zab | apply zad | refine zal ?_ GE170.out) | exact HB.out)) hb); clear BK170; clear HB; have BK170 := n0_; have HB := n1_; clear n0_ n1_; (try clear hb); (try clear hb2); (try clear hk); (try clear hi)))
  go_ret
  exact ⟨by first | rfl | (simp [zas, zar] <;> rfl) | (simp [*, zas, zar] <;> rfl), by repeat (first | (with_reducible first | exact HB.out | apply zac | apply zab | apply zad | refine zal ?_ GE170.out) | exact HB.out)⟩
 ·replace c3 := Bool.eq_false_iff.mpr c3
  subst c3
  have H1 : (some 100) = some r := by rw [if_neg (show ¬ (false = true) by decide)] at H; exact H
  clear H
  have H := H1
  clear H1
  obtain rfl := Option.some.inj H
  go_enter Try.func11, Try.ntmps11
  go_wp2_with (first | ((with_reducible refine zaT (N := 1) rfl ?_); refine zaN ?hg (N := 1) ?hd (cs := #[.slice A0_0 l0_0.length c0_0]) (t := 24) ?hr ?_; (case hd => rfl); (case hg => rfl); (case hr => first | (go_simp; done) | (go_simp; rfl)); intro gb170 hg w7 hbox hb; have n0_ := zaa.mk (zai (by repeat (first | (with_reducible first | exact HB.out | apply zac | apply zab | apply zad) | exact HB.out)) hb); have n1_ := zaa.mk (hbox); have n2_ := zaa.mk ((by rw [hg]; exact (zao (by repeat (first | (with_reducible first | exact HB.out | apply zac | apply zab | apply zad) | exact HB.out))) : w.heap.size ≤ gb170)); have n3_ := zaa.mk ((by rw [hg]; exact (zao (by repeat (first | (with_reducible first | exact HB.out | apply zac | apply zab | apply zad) | exact HB.out))) : w.heap.size ≤ gb170)); clear HB; have HB := n0_; have BK170 := n1_; have GW170 := n2_; have GE170 := n3_; clear n0_ n1_ n2_ n3_; clear hb hbox hg; have hcz8_0 : w7.cell? ⟨gb170, 0, none⟩ = some (.slice A0_0 l0_0.length c0_0) := (zah BK170.out 0).trans rfl; have hfz8_0 := zaf BK170.out 0) | ((with_reducible refine zaW (f := 33) rfl ?_); refine zbE (some 4) rfl rfl Try.func33 (by kernel_rfl) rfl #[.agg #[.slice A0_0 l0_0.length c0_0]] rfl (by (try simp only [List.map_toArray, List.map_cons, List.map_nil]); first | done | rfl | (simp only [List.length_drop, List.length_take]; rfl)) ?_; (with_reducible refine (zaG.calls k _ _ l0_0 false _ ?side1 ?side2 A2.out).mono ?_); (case side1 => repeat (first | exact (Kd.C_below HR0_0.out HB.out) | (with_reducible refine Kd.C_alloc ?_ _) | (with_reducible refine Kd.C_drewN ?_ _) | (with_reducible refine Kd.C_drew ?_))); (case side2 => exact HC0_0.out); rintro e w9 ⟨rfl, hb⟩; refine ⟨_, rfl, ?_⟩; have n0_ := zaa.mk (zaq (g := gb170) (o := .cells #[.slice A0_0 l0_0.length c0_0] 24 (0, 0)) (by (with_reducible repeat (first | refine zak ?_ _ | refine zam ?_ | refine zaj ?_ _)); exact BK170.out) hb); have n1_ := zaa.mk (zai (by repeat (first | (with_reducible first | exact HB.out | apply zac | apply zab | apply zad | refine zal ?_ GE170.out) | exact HB.out)) hb); clear BK170; clear HB; have BK170 := n0_; have HB := n1_; clear n0_ n1_; (try clear hb); (try clear hb2); (try clear hk); (try clear hi)))
  go_ret
  exact ⟨by first | rfl | (simp [zas, zar] <;> rfl) | (simp [*, zas, zar] <;> rfl), by repeat (first | (with_reducible first | exact HB.out | apply zac | apply zab | apply zad | refine zal ?_ GE170.out) | exact HB.out)⟩
theorem MayP.ref {l : List S45} (h : MayP l) : Ev (fun k => zau.f k l) true := by
 obtain ⟨m, h1, h2⟩ := may_both l h.fits
 rwa [Ev.one h1 h.ev] at h2
theorem MayP.check {l : List S45} (h : MayP l) : Ev (fun k => tree_Check.f k l) 0 := by
 unfold tree_Check.f
 exact Ev.bind (f := fun _ t => if t = true then some 0 else some 100) h.ev (Ev.congr (fun _ => if_pos rfl) (Ev.now _))
theorem MayP.clear {l : List S45} (h : MayP l) {n : Nat} (hn0 : 0 < n) (hn : n < l.length) (h4 : (zae l (n : Int)).f4 = 0) {m : Nat} (hm : m ≤ l.length) (hm0 : 0 < m) (hlast : 1 < m → (zae (l.set n z45) ((m - 1 : Nat) : Int)).f0 ≠ 0) (hz : ∀ j : Nat, m ≤ j → j < l.length → (zae (l.set n z45) (j : Int)).f0 = 0) : MayP ((l.set n z45).take m) := by
 have hc0 : cnt l n = 0 := by have := h.links n hn0 hn; omega
 have hno := cnt_zero.1 hc0
 have hleaf : (zae l (n : Int)).f2 = [] := by
  by_cases hk : (zae l (n : Int)).f0 = 2
  ·exact (h.dirs n hn0 hn hk).2.1 h4
  ·exact (h.nodes n hn).leaf hk
 have hs : ∀ j : Nat, (zae (l.set n z45) (j : Int)) = if n = j then z45 else (zae l (j : Int)) := fun j => nd_set _ _ _ hn j
 have hlen : ((l.set n z45).take m).length = m := by rw [List.length_take, List.length_set]; omega
 have hrd : ∀ j : Nat, j < m → (zae ((l.set n z45).take m) (j : Int)) = if n = j then z45 else (zae l (j : Int)) := fun j hj => by
  rw [← hs]
  show ((l.set n z45).take m).getD (j : Int).toNat _ = (l.set n z45).getD (j : Int).toNat _
  rw [Int.toNat_natCast, List.getD_eq_getElem?_getD, List.getD_eq_getElem?_getD, List.getElem?_take, if_pos hj]
 have hkz : ∀ j : Nat, m ≤ j → j < l.length → n = j ∨ (zae l (j : Int)).f0 = 0 := fun j h1 h2 => by
  have := hz j h1 h2
  rw [hs] at this
  by_cases e : n = j
  ·exact .inl e
  ·rw [if_neg e] at this; exact .inr this
 have hin : ∀ x : S66, zbN l x → x.f1 ≠ (n : Int) → ∃ q : Nat, x.f1 = (q : Int) ∧ 0 < q ∧ q < m ∧ (zae l (q : Int)).f0 ≠ 0 ∧ q ≠ n := fun x hx hne => by
  obtain ⟨q, hq, q0, ql, qk⟩ := hx.nat
  refine ⟨q, hq, q0, ?_, qk, by omega⟩
  refine Classical.byContradiction fun hlt => ?_
  rcases hkz q (by omega) ql with e | e
  ·omega
  ·exact qk e
 have hcc : ∀ i, cnt ((l.set n z45).take m) i = cnt l i := fun i => by
  have h1 : cnt (l.set n z45) i + cntN (zae l (n : Int)).f2 i = cnt l i + cntN z45.f2 i := cnt_set l n z45 hn i
  rw [hleaf] at h1
  have h2 : cnt (l.set n z45) i = cnt ((l.set n z45).take m) i + cnt ((l.set n z45).drop m) i := by
   unfold cnt
   rw [← List.sum_append, ← List.map_append, List.take_append_drop]
  have h3 : cnt ((l.set n z45).drop m) i = 0 := by
   unfold cnt
   rw [List.sum_eq_zero_iff_forall_eq_nat]
   intro c hc
   obtain ⟨x, hx, rfl⟩ := List.mem_map.1 hc
   obtain ⟨j, hj, rfl⟩ := List.getElem_of_mem hx
   rw [List.length_drop, List.length_set] at hj
   rw [List.getElem_drop, ← zb0 _ (m + j) (by rw [List.length_set]; omega), hs]
   by_cases e : n = m + j
   ·rw [if_pos e]; rfl
   ·rw [if_neg e]
    rcases hkz (m + j) (by omega) (by omega) with e' | e'
    ·exact absurd e' e
    ·rw [(h.nodes (m + j) (by omega)).leaf (by rw [e']; decide)]; rfl
  have h4 : cntN [] i = 0 := rfl
  have h5 : cntN z45.f2 i = 0 := rfl
  omega
 have hR : ∀ i, Reach l i → i ≠ n → Reach ((l.set n z45).take m) i := fun i hr => by
  induction hr with
  | root => intro _; exact .root
  | @step j x hj hjl hx hd ih =>
   intro _
   have hjn : j ≠ n := fun e => by subst e; rw [hleaf] at hx; cases hx
   obtain ⟨q, hq, q0, qm, qk, qn⟩ := hin x (h.names j hjl x hx) (hno j hjl x hx)
   have hjm : j < m := by
    refine Classical.byContradiction fun hlt => ?_
    rcases hkz j (by omega) hjl with e | e
    ·exact hjn e.symm
    ·rw [(h.nodes j hjl).leaf (by rw [e]; decide)] at hx; cases hx
   refine Reach.step (ih hjn) (by omega) (by rw [hrd j hjm, if_neg (fun e => hjn e.symm)]; exact hx) ?_
   rw [hq, hrd q qm, if_neg (fun e => qn e.symm), ← hq]; exact hd
 refine ⟨by omega, by have := h.len; omega, fun h1 => ?_, ?_, ?_, fun j hj => ?_, fun j hj x hx => ?_, fun i h0 hi => ?_, fun i h0 hi hki => ?_⟩
 ·rw [hlen] at h1 ⊢
  rw [show (m : Int) - 1 = ((m - 1 : Nat) : Int) by omega, hrd (m - 1) (by omega), ← hs]
  exact hlast h1
 ·rw [hrd 0 hm0, if_neg (by omega)]; exact h.k0
 ·rw [hrd 0 hm0, if_neg (by omega)]; exact h.l0
 ·rw [hrd j (by omega)]
  by_cases e : n = j
  ·rw [if_pos e]; exact .inl ⟨rfl, rfl⟩
  ·rw [if_neg e]; exact h.nodes j (by omega)
 ·rw [hrd j (by omega)] at hx
  by_cases e : n = j
  ·rw [if_pos e] at hx; cases hx
  ·rw [if_neg e] at hx
   obtain ⟨q, hq, q0, qm, qk, qn⟩ := hin x (h.names j (by omega) x hx) (hno j (by omega) x hx)
   exact nameIn_of hq q0 (by omega) (by rw [hrd q qm, if_neg (fun e => qn e.symm)]; exact qk)
 ·rw [hcc, hrd i (by omega)]
  by_cases e : n = i
  ·subst e; rw [if_pos rfl, hc0]; rfl
  ·rw [if_neg e]; exact h.links i h0 (by omega)
 ·rw [hrd i (by omega)] at hki ⊢
  by_cases e : n = i
  ·rw [if_pos e] at hki; exact absurd (show (0 : Int) = 2 from hki) (by decide)
  ·rw [if_neg e] at hki ⊢
   have hD := h.dirs i h0 (by omega) hki
   exact ⟨hD.1, hD.2.1, fun q => hR i (hD.2.2 q) (fun q => e q.symm)⟩
theorem trimL_ok : ∀ (k : Nat) (l : List S45), 0 < l.length → l.length ≤ k + 1 → ∃ m, 0 < m ∧ m ≤ l.length ∧ trimL k l = l.take m ∧ (1 < m → (zae l ((m - 1 : Nat) : Int)).f0 ≠ 0) ∧ ∀ j : Nat, m ≤ j → j < l.length → (zae l (j : Int)).f0 = 0
 | 0, l, h0, h1 => ⟨l.length, h0, Nat.le_refl _, by rw [List.take_length]; rfl, fun q => by omega, fun j q1 q2 => by omega⟩
 | k + 1, l, h0, h1 => by
  rw [trimL]
  by_cases c : 1 < l.length ∧ (zae l ((l.length : Int) - 1)).f0 = 0
  ·rw [if_pos c]
   have hl : (l.take (l.length - 1)).length = l.length - 1 := by rw [List.length_take]; omega
   obtain ⟨m, m0, ml, me, mk, mz⟩ := trimL_ok k (l.take (l.length - 1)) (by omega) (by omega)
   have hrd : ∀ j : Nat, j < l.length - 1 → (zae (l.take (l.length - 1)) (j : Int)) = (zae l (j : Int)) := fun j hj => by
    show (l.take (l.length - 1)).getD (j : Int).toNat _ = l.getD (j : Int).toNat _
    rw [Int.toNat_natCast, List.getD_eq_getElem?_getD, List.getD_eq_getElem?_getD, List.getElem?_take, if_pos hj]
   refine ⟨m, m0, by omega, by rw [me, List.take_take]; congr 1; omega, fun q => by rw [← hrd (m - 1) (by omega)]; exact mk q, fun j q1 q2 => ?_⟩
   by_cases e : j = l.length - 1
   ·have := c.2
    rw [show (l.length : Int) - 1 = (j : Int) by omega] at this; exact this
   ·rw [← hrd j (by omega)]; exact mz j q1 (by omega)
  ·rw [if_neg c]
   refine ⟨l.length, h0, Nat.le_refl _, by rw [List.take_length], fun q q2 => c ⟨q, ?_⟩, fun j q1 q2 => by omega⟩
   rw [show (l.length : Int) - 1 = ((l.length - 1 : Nat) : Int) by omega]; exact q2
theorem Free_ev {l : List S45} (h : MayP l) (node : Int) : ∃ r : List S45 × Int, Ev (fun k => tree_Free.f k l node) r ∧ (r.2 ≠ 0 → r.1 = l) ∧ (r.2 = 0 → MayP r.1) := by
 have hm := mayN_ev h.ev [node]
 rw [Bool.true_and, show ([node].all fun n => hasB l n) = hasB l node by simp] at hm
 unfold tree_Free.f
 by_cases q : hasB l node = true
 ·rw [q] at hm
  obtain ⟨n, rfl, hn, hk⟩ := hasB_of l node q
  have step : ∀ {r : List S45 × Int}, Ev (fun k => if (n : Int) = 0 then zaD.f k l 63 else (if 0 < (zae l (n : Int)).f4 then zaD.f k l 63 else (zaJ.f k l).bind fun u => freeD u (n : Int))) r → Ev (fun k => (zbb.f k l [(n : Int)]).bind fun m => if m = true then (if 0 ≤ (n : Int) ∧ (n : Int) < (l.length : Int) then (if (n : Int) = 0 then zaD.f k l 63 else (if 0 < (zae l (n : Int)).f4 then zaD.f k l 63 else (zaJ.f k l).bind fun u => freeD u (n : Int))) else none) else zaD.f k l 100) r := fun hr => Ev.bind hm (Ev.congr (fun k => by rw [if_pos rfl, if_pos ⟨by omega, by omega⟩]) hr)
  by_cases n0 : n = 0
  ·exact ⟨_, step (Ev.congr (fun k => if_pos (by omega)) (h.bad 63)), fun _ => rfl, fun q => absurd (show (63 : Int) = 0 from q) (by decide)⟩
  by_cases n4 : 0 < (zae l (n : Int)).f4
  ·exact ⟨_, step (Ev.congr (fun k => by rw [if_neg (by omega), if_pos n4]) (h.bad 63)), fun _ => rfl, fun q => absurd (show (63 : Int) = 0 from q) (by decide)⟩
  have h4 : (zae l (n : Int)).f4 = 0 := by have := h.links n (by omega) hn; omega
  have hl := h.len
  obtain ⟨m, m0, ml, me, mk, mz⟩ := trimL_ok l.length (l.set n z45) (by rw [List.length_set]; exact h.pos) (by rw [List.length_set]; omega)
  rw [List.length_set] at ml mz
  refine ⟨(trimL l.length (l.set n z45), 0), step (Ev.congr (fun k => by rw [if_neg (by omega), if_neg n4]) (Ev.bind h.own (Ev.congr (fun _ => by unfold freeD; rw [if_pos ⟨by omega, by omega, by omega⟩, Int.toNat_natCast]) (Ev.now _)))), fun q => absurd rfl q, fun _ => ?_⟩
  show MayP (trimL l.length (l.set n z45))
  rw [me]
  exact h.clear (by omega) hn h4 ml m0 mk mz
 ·rw [Bool.not_eq_true] at q
  rw [q] at hm
  exact ⟨_, Ev.bind hm (Ev.congr (fun _ => if_neg (by simp)) (h.bad 100)), fun _ => rfl, fun q => absurd (show (100 : Int) = 0 from q) (by decide)⟩
theorem file_f (l : List S45) (n : Nat) (hn : n < l.length) : ∃ e : Int, tree_file.f l (n : Int) = some e ∧ (e = 0 → (zae l (n : Int)).f0 ≠ 2 ∧ (zae l (n : Int)).f0 ≠ 3) := by
 unfold tree_file.f
 rw [if_pos (by omega), if_pos (by omega)]
 by_cases c : (zae l (n : Int)).f0 = 2
 ·exact ⟨31, by rw [if_pos c], fun q => absurd q (by decide)⟩
 ·by_cases c2 : (zae l (n : Int)).f0 = 3
  ·exact ⟨28, by rw [if_neg c, if_pos c2], fun q => absurd q (by decide)⟩
  ·exact ⟨0, by rw [if_neg c, if_neg c2], fun _ => ⟨c, c2⟩⟩
theorem zb9.kinds {x : S45} (h : zb9 x) (h0 : x.f0 ≠ 0) (h2 : x.f0 ≠ 2) (h3 : x.f0 ≠ 3) : x.f0 = 1 ∧ x.f1.length ≤ 16384 := by
 rcases h with h | h | h | h
 ·exact absurd h.1 h0
 ·exact ⟨h.1, h.2.2.1⟩
 ·exact absurd h.1 h2
 ·exact absurd h.1 h3
theorem MayP.wrote {l : List S45} (h : MayP l) {n : Nat} (hn : n < l.length) (hk : (zae l (n : Int)).f0 = 1) (d : List Int) (hd : d.length ≤ 16384) {t : Int} (ht : zct t) : MayP (l.set n { (zae l (n : Int)) with f1 := d, f5 := t }) := by
 obtain ⟨h1, h2⟩ := may_data h.fits h.ev n hn hk d hd t ht
 exact of_may h1 h2
theorem Write_ev {l : List S45} (h : MayP l) (node at_ : Int) (b : List Int) (now : Int) : ∃ r : List S45 × Int, Ev (fun k => tree_Write.f k l node at_ b now) r ∧ (r.2 ≠ 0 → r.1 = l) ∧ (r.2 = 0 → MayP r.1) := by
 obtain ⟨p, hp, hpt⟩ := linkP_evs h [node] now
 unfold tree_Write.f
 cases p with
 | false => exact ⟨_, Ev.bind hp (Ev.congr (fun _ => if_neg (by simp)) (h.bad 100)), fun _ => rfl, fun q => absurd (show (100 : Int) = 0 from q) (by decide)⟩
 | true =>
  obtain ⟨hall, ht⟩ := hpt.1 rfl
  obtain ⟨n, rfl, hn, hkn⟩ := hasB_of l node (hall node (by simp))
  obtain ⟨fe, hfe, hfz⟩ := file_f l n hn
  have he : writeE l (n : Int) at_ b = some (if fe = 0 then (if at_ < 0 then 28 else (if 16384 < at_ then 22 else if 16384 - at_ < (b.length : Int) then 22 else 0)) else fe) := by unfold writeE; rw [hfe]; rfl
  obtain ⟨e, hee⟩ : ∃ e, e = (if fe = 0 then (if at_ < 0 then 28 else (if 16384 < at_ then 22 else if 16384 - at_ < (b.length : Int) then 22 else 0)) else fe) := ⟨_, rfl⟩
  rw [← hee] at he
  have step : ∀ r : List S45 × Int, Ev (fun k => if e = 0 then (zaJ.f k l).bind fun u => (writeD u (n : Int) at_ b now).bind fun r => some (r, 0) else zaD.f k l e) r → Ev (fun k => (linkP k l [(n : Int)] now).bind fun p => if p = true then (writeE l (n : Int) at_ b).bind fun e => (if e = 0 then (zaJ.f k l).bind fun u => (writeD u (n : Int) at_ b now).bind fun r => some (r, 0) else zaD.f k l e) else zaD.f k l 100) r := fun r hr => Ev.bind hp (Ev.congr (fun _ => by rw [if_pos rfl, he, Option.bind_some]) hr)
  by_cases e0 : e = 0
  ·rw [e0] at hee
   have hf0 : fe = 0 := Decidable.not_not.1 fun q => by rw [if_neg q] at hee; exact q hee.symm
   rw [if_pos hf0] at hee
   have a0 : ¬ at_ < 0 := fun q => by rw [if_pos q] at hee; exact absurd hee (by decide)
   rw [if_neg a0] at hee
   have a1 : ¬ 16384 < at_ := fun q => by rw [if_pos q] at hee; exact absurd hee (by decide)
   rw [if_neg a1] at hee
   have a2 : ¬ 16384 - at_ < (b.length : Int) := fun q => by rw [if_pos q] at hee; exact absurd hee (by decide)
   obtain ⟨k2, k3⟩ := hfz hf0
   obtain ⟨hk1, hdl⟩ := (h.nodes n hn).kinds hkn k2 k3
   have hg : 0 ≤ (n : Int) ∧ (n : Int) < (l.length : Int) ∧ 0 ≤ at_ ∧ at_ ≤ 16384 ∧ b.length ≤ 16384 ∧ (zae l (n : Int)).f1.length ≤ 1000000 := ⟨by omega, by omega, by omega, by omega, by omega, by omega⟩
   by_cases hb : b.length = 0
   ·exact ⟨(l, 0), step _ (Ev.congr (fun _ => if_pos e0) (Ev.bind h.own (Ev.congr (fun _ => by unfold writeD; rw [if_pos hg, if_pos hb]; rfl) (Ev.now _)))), fun q => absurd rfl q, fun _ => h⟩
   ·refine ⟨(_, 0), step _ (Ev.congr (fun _ => if_pos e0) (Ev.bind h.own (Ev.congr (fun _ => by unfold writeD; rw [if_pos hg, if_neg hb, Int.toNat_natCast]; rfl) (Ev.now _)))), fun q => absurd rfl q, fun _ => h.wrote hn hk1 _ ?_ ht⟩
    rw [wroteB_len]; omega
  ·exact ⟨_, step _ (Ev.congr (fun _ => if_neg e0) (h.bad e)), fun _ => rfl, fun q => absurd q e0⟩
theorem Cut_ev {l : List S45} (h : MayP l) (node m now : Int) : ∃ r : List S45 × Int, Ev (fun k => tree_Cut.f k l node m now) r ∧ (r.2 ≠ 0 → r.1 = l) ∧ (r.2 = 0 → MayP r.1) := by
 obtain ⟨p, hp, hpt⟩ := linkP_evs h [node] now
 unfold tree_Cut.f
 cases p with
 | false => exact ⟨_, Ev.bind hp (Ev.congr (fun _ => if_neg (by simp)) (h.bad 100)), fun _ => rfl, fun q => absurd (show (100 : Int) = 0 from q) (by decide)⟩
 | true =>
  obtain ⟨hall, ht⟩ := hpt.1 rfl
  obtain ⟨n, rfl, hn, hkn⟩ := hasB_of l node (hall node (by simp))
  obtain ⟨fe, hfe, hfz⟩ := file_f l n hn
  have he : cutE l (n : Int) m = some (if fe = 0 then (if m < 0 then 28 else (if 16384 < m then 22 else 0)) else fe) := by unfold cutE; rw [hfe]; rfl
  obtain ⟨e, hee⟩ : ∃ e, e = (if fe = 0 then (if m < 0 then 28 else (if 16384 < m then 22 else 0)) else fe) := ⟨_, rfl⟩
  rw [← hee] at he
  have step : ∀ r : List S45 × Int, Ev (fun k => if e = 0 then (zaJ.f k l).bind fun u => (cutD u (n : Int) m now).bind fun r => some (r, 0) else zaD.f k l e) r → Ev (fun k => (linkP k l [(n : Int)] now).bind fun p => if p = true then (cutE l (n : Int) m).bind fun e => (if e = 0 then (zaJ.f k l).bind fun u => (cutD u (n : Int) m now).bind fun r => some (r, 0) else zaD.f k l e) else zaD.f k l 100) r := fun r hr => Ev.bind hp (Ev.congr (fun _ => by rw [if_pos rfl, he, Option.bind_some]) hr)
  by_cases e0 : e = 0
  ·rw [e0] at hee
   have hf0 : fe = 0 := Decidable.not_not.1 fun q => by rw [if_neg q] at hee; exact q hee.symm
   rw [if_pos hf0] at hee
   have a0 : ¬ m < 0 := fun q => by rw [if_pos q] at hee; exact absurd hee (by decide)
   rw [if_neg a0] at hee
   have a1 : ¬ 16384 < m := fun q => by rw [if_pos q] at hee; exact absurd hee (by decide)
   obtain ⟨k2, k3⟩ := hfz hf0
   obtain ⟨hk1, hdl⟩ := (h.nodes n hn).kinds hkn k2 k3
   refine ⟨(_, 0), step _ (Ev.congr (fun _ => if_pos e0) (Ev.bind h.own (Ev.congr (fun _ => by unfold cutD; rw [if_pos ⟨by omega, by omega, by omega, by omega⟩, Int.toNat_natCast]; rfl) (Ev.now _)))), fun q => absurd rfl q, fun _ => h.wrote hn hk1 _ ?_ ht⟩
   rw [zbW]; omega
  ·exact ⟨_, step _ (Ev.congr (fun _ => if_neg e0) (h.bad e)), fun _ => rfl, fun q => absurd q e0⟩
theorem MakeW_ev {l : List S45} (h : MayP l) (dir : Int) (s : ByteArray) (kind : Int) (target : ByteArray) (now : Int) : ∃ r : List S45 × Int × Int, Ev (fun k => zbD.f k l dir s kind target now) r ∧ (r.2.2 ≠ 0 → r.1 = l) ∧ (r.2.2 = 0 → MayP r.1) := by
 obtain ⟨r, h1, h2, h3⟩ := Make_ev h dir s kind target now
 refine ⟨r, h1, h2, fun q => ?_⟩
 obtain ⟨n, d, _, hd, hk, hs, h4, hb, hl, hn, h64, hf, hkp, ht, _, e⟩ := h3 q
 rw [e]; exact h.make hd hk h4 hs hb hl hn h64 hf hkp ht
theorem LinkW_ev {l : List S45} (h : MayP l) (node dir : Int) (s : ByteArray) (now : Int) : ∃ r : List S45 × Int, Ev (fun k => tree_Link.f k l node dir s now) r ∧ (r.2 ≠ 0 → r.1 = l) ∧ (r.2 = 0 → MayP r.1) := by
 obtain ⟨r, h1, h2, h3⟩ := Link_ev h node dir s now
 refine ⟨r, h1, h2, fun q => ?_⟩
 obtain ⟨n, d, _, _, hn, hd, k0, k2, hk, hs, h4, hb, hl, ht, e⟩ := h3 q
 rw [e]; exact h.link hd hk h4 hs hb hl hn k0 k2 ht
theorem UnlinkW_ev {l : List S45} (h : MayP l) (dir : Int) (s : ByteArray) (isdir : Bool) (now : Int) : ∃ r : List S45 × Int, Ev (fun k => tree_Unlink.f k l dir s isdir now) r ∧ (r.2 ≠ 0 → r.1 = l) ∧ (r.2 = 0 → MayP r.1) := by
 obtain ⟨r, h1, h2, h3, _⟩ := Unlink_ev h dir s isdir now
 refine ⟨r, h1, h2, fun q => ?_⟩
 obtain ⟨n, d, _, _, hd, hk, _, hm, hleaf, ht, e⟩ := h3 q
 rw [e]; exact h.unlink hd hk hm hleaf ht
end Go.Proofs.Ytjghephnjkffcaa.PCk
