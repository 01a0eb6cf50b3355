/- Parts of one proof, merged by a program of this repo: walks over the given program and plain facts. -/
import Derived.Test.YtjghephnjkffcaaGreatMTreeMakes5
import Derived.Test.YtjghephnjkffcaaGreatMTreeMakes10
import Derived.Test.YtjghephnjkffcaaGreatMTreeMakes8
import Derived.Test.YtjghephnjkffcaaGreatMTreeMakes11
import Derived.Test.YtjghephnjkffcaaGreatMTreeMakes12
import Derived.Test.YtjghephnjkffcaaGreatMTreeMakes4
import Derived.Test.YtjghephnjkffcaaGreatMTreeMakes7
import Derived.Test.YtjghephnjkffcaaGreatMTreeMakes9
import Derived.Test.YtjghephnjkffcaaGreatMTreeMakes2
namespace Go.Proofs.YtjghephnjkffcaaGreat.PAll
open Go.RowKit Go.Proofs.YtjghephnjkffcaaGreatW.PrintWords Go.Proofs.YtjghephnjkffcaaGreatW.PrintLast Go.Proofs.YtjghephnjkffcaaGreatW.PrintMore
attribute [local go_sem] zbY zbW zcm zcl zbG zbF zbX zbV
set_option linter.unusedVariables false
set_option linter.unusedSimpArgs false
theorem leadE_ev (kind : Int) (t : ByteArray) (ht : t.size < 9223372036854775807) : Ev (fun k => leadE k kind t) (leadsR kind t) := by
 unfold leadE leadsR
 by_cases hk : kind = 3
 ·by_cases he : t.toList = ([] : List UInt8)
  ·exact Ev.congr (fun _ => by rw [if_pos hk, if_pos he]) (by rw [if_pos hk, if_pos (.inl (zbM.1 he))]; exact Ev.now _)
  ·obtain ⟨z, hz, hzt⟩ := zero_ev t ht
   refine Ev.congr (fun _ => by rw [if_pos hk, if_neg he]) (Ev.bind hz ?_)
   rw [if_pos hk]
   cases z with
   | true =>
    rw [show (if t = ⟨#[]⟩ ∨ (0 : UInt8) ∈ bytesOf t then (28 : Int) else if (t.size : Int) > 512 then 37 else 0) = 28 from if_pos (.inr (hzt.1 rfl))]
    exact Ev.congr (fun _ => if_pos rfl) (Ev.now _)
   | false =>
    rw [show (if t = ⟨#[]⟩ ∨ (0 : UInt8) ∈ bytesOf t then (28 : Int) else if (t.size : Int) > 512 then 37 else 0) = (if (t.size : Int) > 512 then 37 else 0) from if_neg (fun q => q.elim (fun q => he (zbM.2 q)) (fun q => absurd (hzt.2 q) (by decide)))]
    by_cases h5 : (t.size : Int) > 512
    ·exact Ev.congr (fun _ => (if_neg (show ¬ (false = true) from Bool.false_ne_true)).trans ((if_pos h5).trans (congrArg some (if_pos h5).symm))) (Ev.now _)
    ·exact Ev.congr (fun _ => (if_neg (show ¬ (false = true) from Bool.false_ne_true)).trans ((if_neg h5).trans (congrArg some (if_neg h5).symm))) (Ev.now _)
 ·rw [if_neg hk]
  exact Ev.congr (fun _ => if_neg hk) (Ev.now _)
theorem refMakeE_ev {l : List S40} (h : MayP l) {d : Nat} (hd : d < l.length) (s : ByteArray) (hss : s.size < 9223372036854775807) (kind : Int) (t : ByteArray) (ht : t.size < 9223372036854775807) : Ev (fun k => zcp k l (d : Int) s kind t) (roomR l d s (leadsR kind t)) := by
 unfold zcp
 by_cases hk : (zaj l (d : Int)).f0 = 2
 ·refine Ev.congr (fun _ => by rw [refdir_f l d hd, Option.bind_some, if_pos (by simpa using hk)]) (Ev.bind (page_name s hss) ?_)
  have hl := leadE_ev kind t ht
  have hen := entry_ev h d hd hk s
  obtain ⟨b, hb⟩ : ∃ b, b = leadsR kind t := ⟨_, rfl⟩
  rw [← hb] at hl ⊢
  unfold roomR
  rw [if_pos hk]
  by_cases c : nameP s = 0
  ·rw [if_pos c]
   refine Ev.congr (fun _ => if_pos c) (Ev.bind hl ?_)
   by_cases c2 : b = 0
   ·rw [if_pos c2]; exact Ev.congr (fun _ => if_pos c2) hen
   ·rw [if_neg c2]; exact Ev.congr (fun _ => if_neg c2) (Ev.now _)
  ·rw [if_neg c]
   exact Ev.congr (fun _ => if_neg c) (Ev.now _)
 ·rw [show roomR l d s (leadsR kind t) = 54 by unfold roomR; rw [if_neg hk]]
  exact Ev.congr (fun _ => by rw [refdir_f l d hd, Option.bind_some, if_neg (by simpa using hk)]) (Ev.now _)
theorem kind_not (kind : Int) (t : ByteArray) : (decide (1 ≤ kind) && (decide (kind ≤ 3) && (kind == 3 || t.toList == ([] : List UInt8)))) = !kindB kind t := by
 unfold kindB
 by_cases h1 : kind < 1
 ·rw [decide_eq_true h1, decide_eq_false (show ¬ 1 ≤ kind by omega)]; rfl
 ·rw [decide_eq_false h1, decide_eq_true (show 1 ≤ kind by omega)]
  by_cases h2 : kind > 3
  ·rw [decide_eq_true h2, decide_eq_false (show ¬ kind ≤ 3 by omega)]; rfl
  ·rw [decide_eq_false h2, decide_eq_true (show kind ≤ 3 by omega)]
   simp only [Bool.true_and, Bool.false_or, bne]
   cases (kind == 3) <;> cases (t.toList == ([] : List UInt8)) <;> rfl
theorem makeP_gen {l : List S40} {m : Bool} (hT : Ev (fun k => zaS.f k l) m) (dir kind : Int) (t : ByteArray) (now : Int) {tm : Bool} (ht : tm = true ↔ TimeP now) : Ev (fun k => makeP k l dir kind t now) ((m && hasB l dir) && (tm && !kindB kind t)) := by
 have hm := mayN_ev hT [dir]
 rw [show ([dir].all fun n => hasB l n) = hasB l dir by simp] at hm
 obtain ⟨b, hb, hbt⟩ := tree_time_ now
 have e : b = tm := Bool.eq_iff_iff.2 (hbt.trans ht.symm)
 subst e
 unfold makeP
 refine Ev.bind hm ?_
 cases (m && hasB l dir) with
 | true => exact Ev.congr (fun _ => if_pos rfl) (Ev.congr (fun _ => by rw [hb, Option.bind_some, kind_not]; rfl) (Ev.now _))
 | false => exact Ev.congr (fun _ => if_neg (by simp)) (Ev.now _)
theorem newN_len (l : List S40) (n : Nat) (hn : n ≤ l.length) (kind : Int) (t : ByteArray) (now : Int) : (newN l n kind t now).length = max l.length (n + 1) := by
 unfold newN
 by_cases e : n = l.length
 ·rw [if_pos e, List.length_append, List.length_singleton]; omega
 ·rw [if_neg e, List.length_set]; omega
theorem newN_nd (l : List S40) (n : Nat) (hn : n ≤ l.length) (kind : Int) (t : ByteArray) (now : Int) (j : Nat) : (zaj (newN l n kind t now) (j : Int)) = if n = j then ⟨kind, [], [], t, 0, now⟩ else (zaj l (j : Int)) := by
 unfold newN
 by_cases e : n = l.length
 ·rw [if_pos e]
  show (l ++ [(⟨kind, [], [], t, 0, now⟩ : S40)]).getD (j : Int).toNat _ = if n = j then _ else l.getD (j : Int).toNat _
  rw [Int.toNat_natCast, List.getD_eq_getElem?_getD, List.getD_eq_getElem?_getD]
  by_cases e2 : n = j
  ·rw [if_pos e2]
   have : j = l.length := by omega
   subst this
   rw [List.getElem?_append_right (Nat.le_refl _)]
   simp
  ·rw [if_neg e2]
   by_cases e3 : j < l.length
   ·rw [List.getElem?_append_left e3]
   ·rw [List.getElem?_eq_none (by simp; omega), List.getElem?_eq_none (by omega)]
 ·rw [if_neg e, nd_set _ _ _ (by omega)]
theorem withNew_newN (l : List S40) (n : Nat) (kind : Int) (t : ByteArray) (now : Int) : zbz l (n : Int) kind t now = (newN l n kind t now).set n ⟨kind, [], [], t, 1, now⟩ := by
 unfold zbz newN
 rw [Int.toNat_natCast]
 by_cases e : n = l.length
 ·rw [if_pos e, if_pos (by omega)]
  subst e
  rw [List.set_append_right _ _ (Nat.le_refl _), List.set_append_right _ _ (Nat.le_refl _)]
  simp
 ·rw [if_neg e, if_neg (by omega), List.set_set]
theorem made_eq (l : List S40) {n d : Nat} (hn : n ≤ l.length) (hd : d < l.length) (hnd : n ≠ d) (hs : Sorted (zaj l (d : Int)).f2) (s : ByteArray) (kind : Int) (t : ByteArray) (now : Int) : addN (zbz l (n : Int) kind t now) (d : Int) s (n : Int) now = zbK (putN (newN l n kind t now) (d : Int) s (n : Int) now) (n : Int) 1 := by
 have hl := newN_len l n hn kind t now
 have hnn := newN_nd l n hn kind t now
 have hd1 := hnn d
 rw [if_neg hnd] at hd1
 have hn1 := hnn n
 rw [if_pos rfl] at hn1
 rw [putN_eq (by rw [hd1]; exact hs), withNew_newN]
 generalize newN l n kind t now = L at hl hd1 hn1
 unfold zbK
 rw [addN_nd L d (by omega), if_neg (fun q => hnd q.symm), hn1]
 have e1 : zaj (L.set n ⟨kind, [], [], t, 1, now⟩) (d : Int) = (zaj L (d : Int)) := by rw [nd_set _ _ _ (by omega), if_neg hnd]
 unfold addN
 rw [e1, Int.toNat_natCast, Int.toNat_natCast, List.set_comm _ _ hnd]
 have hw : wrap64 (0 + 1) = 1 := by unfold wrap64; omega
 show _ = (L.set d _).set n ⟨kind, [], [], t, wrap64 (0 + 1), now⟩
 rw [hw]
def MakesAt (k : Nat) (l : List S40) (n1 dir : Int) (s : ByteArray) (kind : Int) (t : ByteArray) (now : Int) : Prop :=
 ∃ (m tm b1 b2 : Bool) (n0 : Int) (r1 : List S40) (e : Int), zaX.f k l = some l ∧ zau.f k l = some m ∧ za7.f now = some tm ∧ zbs.f l n1 = some b1 ∧ zbs.f l dir = some b2 ∧ zbc.f k l l = some true ∧
  ((m && (tm && b2)) = false → e = 100 ∧ r1 = (if m = true then l else []) ∧ n0 = 0) ∧ ((m && (tm && b2)) = true → (e ≠ 0 → MakeNo k l dir s kind t e) ∧ (e ≠ 0 → r1 = l ∧ n0 = 0) ∧ (e = 0 → ∃ n : Nat, n0 = (n : Int) ∧ MakeYes k l dir s kind t now n r1)) ∧ zbm.f k l dir s kind t now = some (r1, n0, e) ∧ zbo.f k r1 e r1 e = some true ∧ SpoilG k r1
theorem makes_at {l : List S40} (hl : l.length < 1599289640401) (hf : Fits l) (n1 dir : Int) (s : ByteArray) (hss : s.size < 9223372036854775807) (kind : Int) (t : ByteArray) (hts : t.size < 9223372036854775807) (now : Int) : ∃ K, ∀ k, K ≤ k → MakesAt k l n1 dir s kind t now := by
 obtain ⟨m, hT, ⟨K1, hM⟩⟩ := may_both l hf
 obtain ⟨tm, htm, htt⟩ := page_time now
 obtain ⟨K2, hC⟩ := copyTree l hl hf.n
 obtain ⟨K3, hE⟩ := (eqTree l l (by omega) hf.n).out rfl
 have hP := makeP_gen hT dir kind t now htt
 rw [show ((m && hasB l dir) && (tm && !kindB kind t)) = ((m && (tm && hasB l dir)) && !kindB kind t) by cases m <;> cases tm <;> cases (hasB l dir) <;> rfl] at hP
 have bad : ∀ r : List S40, Ev (fun k => makeE k l dir s kind t now) (100, 0) → Ev (fun k => zbP.f k l 100) (r, 100) → Ev (fun k => zbm.f k l dir s kind t now) (r, 0, 100) := fun r h1 h2 => by
  unfold zbm.f
  exact Ev.bind h1 (Ev.congr (fun _ => if_neg (by decide)) (Ev.bind h2 (Ev.now _)))
 by_cases c : (m && (tm && hasB l dir)) = true
 ·rw [c, Bool.true_and] at hP
  have c' := c
  rw [Bool.and_eq_true, Bool.and_eq_true] at c'
  obtain ⟨hm, ht, hb2⟩ := c'
  rw [hm] at hT
  have h := of_may hf hT
  obtain ⟨d, rfl, hd, hkd⟩ := hasB_of l dir hb2
  by_cases kb : kindB kind t = true
  ·rw [kb] at hP
   have hE1 : Ev (fun k => makeE k l (d : Int) s kind t now) (100, 0) := by
    unfold makeE
    exact Ev.bind hP (Ev.congr (fun _ => if_neg (by decide)) (Ev.now _))
   obtain ⟨K5, h5⟩ := bad l hE1 (h.bad 100)
   obtain ⟨K6, h6⟩ := h.told 100
   obtain ⟨K7, h7⟩ := h.spoil
   exact ⟨K1 + K2 + K3 + K5 + K6 + K7, fun k hk => ⟨m, tm, _, _, 0, l, 100, hC k (by omega), hM k (by omega), htm, is_f l n1, is_f l (d : Int), hE k (by omega), fun q => absurd (q.symm.trans c) (by decide), fun _ => ⟨fun _ => .inl ⟨kb, rfl⟩, fun _ => ⟨rfl, rfl⟩, fun q => absurd q (by decide)⟩, h5 k (by omega), h6 k (by omega), h7 k (by omega)⟩⟩
  ·rw [Bool.not_eq_true] at kb
   rw [kb] at hP
   have kn := kind_not kind t
   rw [kb] at kn
   simp only [Bool.not_false, Bool.and_eq_true, decide_eq_true_eq, Bool.or_eq_true, beq_iff_eq] at kn
   obtain ⟨k1, k3, kt⟩ := kn
   have kt' : kind ≠ 3 → t.toList = ([] : List UInt8) := fun q => kt.resolve_left q
   obtain ⟨K4, h4⟩ := refMakeE_ev h hd s hss kind t hts
   obtain ⟨n, hfr, hn1, hn2, hn3⟩ := free_ev l h.len
   have hpl : PlaceG l n := ⟨hn1, h.len, hn3, hn2⟩
   have hE1 : Ev (fun k => makeE k l (d : Int) s kind t now) (if roomR l d s (leadsR kind t) = 0 then (if (n : Int) = 64 then 51 else 0) else roomR l d s (leadsR kind t), (n : Int)) := by
    unfold makeE
    refine Ev.bind hP (Ev.congr (fun _ => if_pos rfl) ?_)
    unfold makeR
    exact Ev.bind hfr (Ev.bind (leads_ev kind t) (Ev.bind (room_ev h d hd s _) (Ev.now _)))
   have refuse : ∀ e : Int, e ≠ 0 → (if roomR l d s (leadsR kind t) = 0 then (if (n : Int) = 64 then (51 : Int) else 0) else roomR l d s (leadsR kind t)) = e → (∃ K, ∀ k, K ≤ k → MakeNo k l (d : Int) s kind t e) → ∃ K, ∀ k, K ≤ k → MakesAt k l n1 (d : Int) s kind t now := fun e he hv ⟨K8, h8⟩ => by
    rw [hv] at hE1
    obtain ⟨K5, h5⟩ : Ev (fun k => zbm.f k l (d : Int) s kind t now) (l, 0, e) := by
     unfold zbm.f
     exact Ev.bind hE1 (Ev.congr (fun _ => if_neg he) (Ev.bind (h.bad e) (Ev.now _)))
    obtain ⟨K6, h6⟩ := h.told e
    obtain ⟨K7, h7⟩ := h.spoil
    exact ⟨K1 + K2 + K3 + K5 + K6 + K7 + K8, fun k hk => ⟨m, tm, _, _, 0, l, e, hC k (by omega), hM k (by omega), htm, is_f l n1, is_f l (d : Int), hE k (by omega), fun q => absurd (q.symm.trans c) (by decide), fun _ => ⟨fun _ => h8 k (by omega), fun _ => ⟨rfl, rfl⟩, fun q => absurd q he⟩, h5 k (by omega), h6 k (by omega), h7 k (by omega)⟩⟩
   by_cases r0 : roomR l d s (leadsR kind t) = 0
   ·by_cases n64 : n = 64
    ·refine refuse 51 (by decide) (by rw [if_pos r0, if_pos (by omega)]) ⟨K4, fun k hk => .inr ⟨⟨k1, k3, kt'⟩, .inr ⟨(h4 k hk).trans (congrArg some r0), by rw [← n64]; exact hpl, rfl⟩⟩⟩
    ·rw [if_pos r0, if_neg (by omega)] at hE1
     obtain ⟨a1, a2, a3, a4, a5, a6⟩ := roomR_zero r0
     have hdp := (h.nodes d hd).dir a1
     have hlen := hdp.len
     have hll := h.len
     have hnd : n ≠ d := fun q => by subst q; have := hn2 hd; omega
     have hn0 : 0 < n := Nat.pos_of_ne_zero fun q => by
      subst q
      have h1 := hn2 (by omega)
      have h2 := h.k0
      rw [h1] at h2
      exact absurd h2 (by decide)
     have hkp := leadsR_zero k1 k3 (kt.imp id zbM.1) a3
     have hr := h.make hd a1 a4 a2 a5 (by omega) hn1 (by omega) hn2 hkp (htt.1 ht)
     obtain ⟨K5, h5⟩ : Ev (fun k => zbm.f k l (d : Int) s kind t now) (addN (zbz l (n : Int) kind t now) (d : Int) s (n : Int) now, (n : Int), 0) := by
      unfold zbm.f
      refine Ev.bind hE1 (Ev.congr (fun _ => if_pos rfl) (Ev.bind h.own ?_))
      refine Ev.congr (fun _ => if_pos (show 0 ≤ (n : Int) ∧ (n : Int) ≤ (l.length : Int) ∧ l.length ≤ 1000000 from ⟨by omega, by omega, by omega⟩)) ?_
      change Ev (fun _ => (makeD (zbz l (n : Int) kind t now) (d : Int) s (n : Int) now).bind fun r => some (r, (n : Int), (0 : Int))) _
      have hdd := withNew_nd l n hn1 kind t now d
      rw [if_neg hnd] at hdd
      have hwl := withNew_len l n hn1 kind t now
      unfold makeD
      rw [if_pos ⟨by omega, by omega, by rw [hdd]; omega, bs_le _ _⟩]
      exact Ev.now _
     obtain ⟨K6, h6⟩ := hr.told 0
     obtain ⟨K7, h7⟩ := hr.spoil
     have hnw := newN_nd l n hn1 kind t now d
     rw [if_neg hnd] at hnw
     have hnl := newN_len l n hn1 kind t now
     obtain ⟨K8, h8⟩ := copyNames ((zaj l (d : Int)).f2.take (putAt s (zaj l (d : Int)).f2)) (by rw [List.length_take]; omega)
     exact ⟨K1 + K2 + K3 + K4 + K5 + K6 + K7 + K8, fun k hk => ⟨m, tm, _, _, (n : Int), _, 0, hC k (by omega), hM k (by omega), htm, is_f l n1, is_f l (d : Int), hE k (by omega), fun q => absurd (q.symm.trans c) (by decide), fun _ => ⟨fun q => absurd rfl q, fun q => absurd rfl q, fun _ => ⟨n, rfl, k1, k3, kt', (h4 k (by omega)).trans (congrArg some r0), hpl, n64, ⟨by omega, by omega, by omega, by omega, by rw [hnw]; omega, by rw [hnw]; exact h8 k (by omega)⟩, by omega, made_eq l hn1 hd hnd hdp.sorted s kind t now⟩⟩, h5 k (by omega), h6 k (by omega), h7 k (by omega)⟩⟩
   ·exact refuse _ r0 (by rw [if_neg r0]) ⟨K4, fun k hk => .inr ⟨⟨k1, k3, kt'⟩, .inl ⟨h4 k hk, r0⟩⟩⟩
 ·rw [Bool.not_eq_true] at c
  rw [c] at hP
  have hE1 : Ev (fun k => makeE k l dir s kind t now) (100, 0) := by
   unfold makeE
   exact Ev.bind hP (Ev.congr (fun _ => if_neg (by simp)) (Ev.now _))
  obtain ⟨K5, h5⟩ := bad (elseR m l) hE1 (bad100 hf hT)
  obtain ⟨K6, h6⟩ := else_told hf hT
  obtain ⟨K7, h7⟩ := else_spoil hf hT
  exact ⟨K1 + K2 + K3 + K5 + K6 + K7, fun k hk => ⟨m, tm, _, _, 0, _, 100, hC k (by omega), hM k (by omega), htm, is_f l n1, is_f l dir, hE k (by omega), fun _ => ⟨rfl, rfl, rfl⟩, fun q => absurd (q.symm.trans c) (by decide), h5 k (by omega), h6 k (by omega), h7 k (by omega)⟩⟩
set_option maxHeartbeats 8000000 in
set_option maxRecDepth 100000 in
theorem tree_spoil (k : Nat) (v : Value) (l : List S40) (w0 w : World) (hB : Below w0.heap.size w0 w) (h : Kd.S k40 40 w w0.heap.size (fun _ => True) v l) (hd : ∀ x ∈ l, zaV.f k x.f1 = some ()) (hm : l.length ≤ 1000000) (hn : ∀ x ∈ l, x.f2.length ≤ 1000000) :
  Calls Tryz.prog 56 #[.agg #[v]] w fun e w' => e = .returned (.tuple #[]) ∧ Below w0.heap.size w0 w' := by
 obtain ⟨A, c, rfl⟩ := Kd.zbO h
 have HS0 := zaa.mk (Kd.zbp (Kd.zbn (ok' := fun q => q < w.heap.size) (Kd.S_bound h) (fun q hq => hq.2.2.1)) (.cells #[.slice A l.length c] 24))
 have HN0 := zaa.mk (za8 w (.cells #[.slice A l.length c] 24))
 have HB0 := zaa.mk (zac hB (.cells #[.slice A l.length c] 24))
 obtain ⟨n, hnl⟩ : ∃ n, n = l.length := ⟨_, rfl⟩
 rw [← hnl] at HS0 HN0 HB0 ⊢
 have hnm : n ≤ 1000000 := by omega
 have HN := zaa.mk hnl
 have HD := zaa.mk hd
 have HM := zaa.mk hn
 have hut := Tryz.underlying24
 have hun := Tryz.underlying40
 have hum := Tryz.underlying50
 clear h hd hm hn hB hnl
 go_enter Tryz.func56, Tryz.ntmps56
 go_wp2
 go_loopw [2] (fun v2 w' => ∃ (i : Nat) (q : List S40), i ≤ n ∧ v2 = .int .i64 i ∧ zaa (q.length = n) ∧ zaa (∀ j : Nat, i ≤ j → q[j]? = l[j]?) ∧ zaa (Kd.S k40 40 w' w0.heap.size (fun q => q < w.heap.size) (.slice A n c) q) ∧ zaa (w'.heap[w.heap.size]? = some (.cells #[.slice A n c] 24 (0, 0))) ∧ zaa (Below w0.heap.size w0 w')) (fun v2 _ => n - (intOf v2).toNat)
 case atStart => exact ⟨0, l, Nat.zero_le _, rfl, ⟨HN.out.symm⟩, ⟨fun _ _ => rfl⟩, HS0, HN0, HB0⟩
 case round =>
  clear HS0 HN0 HB0
  obtain ⟨i, q, hi, rfl, HL, HQ, HS, HX, HB⟩ := hrel
  have hctx := (zad HX.out 0).trans rfl
  by_cases hlt : i < n
  ·obtain ⟨g, cap, e, hbg, hgl, cells, hgc⟩ := Kd.S_form HS.out (by rw [HL.out]; omega)
   rw [HL.out] at e
   injection e with e1 _ e3
   subst e1
   subst e3
   have HGN : zaa (g < w.heap.size) := ⟨(Kd.S_R HS.out).1 g rfl⟩
   obtain ⟨oki, cs, hcl, hM, hcc, hoki, hH⟩ := Kd.S_lend HS.out z40 (i : Int) (by omega) (by omega)
   rw [Int.toNat_natCast] at hM hcc
   obtain ⟨y, hy⟩ : ∃ y, y = q.getD i z40 := ⟨_, rfl⟩
   have hyl : y ∈ l := by
    have h1 : q[i]? = l[i]? := HQ.out i (Nat.le_refl _)
    have h2 : i < l.length := by rw [← HN.out]; exact hlt
    rw [hy, List.getD_eq_getElem?_getD, h1, List.getElem?_eq_getElem h2]
    exact List.getElem_mem _
   rw [← hy] at hM
   obtain ⟨v1, v2, rfl, hR1, hR2⟩ := k40_openM hM
   obtain ⟨A1, c1, rfl⟩ := Kd.zbS hR1
   obtain ⟨A2, c2, rfl⟩ := Kd.zbS hR2
   have HBY := zaa.mk (HD.out y hyl)
   have hmm := HM.out y hyl
   have hx1 : wr.cell? ⟨g, i * 6 + 1, none⟩ = some (.slice A1 y.f1.length c1) := hcc 1 _ rfl
   have HR1 := zaa.mk (Kd.R_flat (ok' := fun q => some q = (Value.slice A1 y.f1.length c1).ownBlock) (fun h => h) hR1 (fun k hk _ => hk.symm))
   have HO1 := zaa.mk hR1.1
   have HR2 := zaa.mk (Kd.R_apart' hR2 (Kd.R_typed hR1) (by decide))
   have HH := zaa.mk hH
   have HOK := zaa.mk hoki
   have HGL := zaa.mk hgl
   have HGB := zaa.mk hbg
   have HLT := zaa.mk hlt
   clear hcl hM hcc hoki hH hy hyl hbg hgl hgc hR1 hR2
   obtain ⟨m, hm2⟩ : ∃ m, m = y.f2.length := ⟨_, rfl⟩
   go_wp2_with (first | (go_at_call 41; refine (zaV.calls k (fun q => some q = (Value.slice A1 y.f1.length c1).ownBlock) _ y.f1 w0 _ HB.out HR1.out HBY.out).mono ?_; rintro e' w1 ⟨rfl, hb, hk⟩; have HB1 := zaa.mk hb; have HGL1 := zaa.mk (Nat.lt_of_lt_of_le HGL.out hk.1); have HX1 := zaa.mk ((hk.2 w.heap.size (zaF HX.out) (fun h => Nat.lt_irrefl _ ((HOK.out _ (HO1.out _ h.symm)).1))).trans HX.out); have HH1 := zaa.mk (Kd.H_kept HH.out hk (fun q _ hn h => hn (HO1.out q h.symm))); have HR21 := zaa.mk (Kd.R_kept HR2.out hk (fun q hq h => hq.2 h)); clear hb hk))
   have HM2 := zaa.mk hm2
   rw [← hm2] at HH1 HR21 hmm
   clear HX HS HH HR1 HR2 HB hctx hx1 hm2
   go_loopw [3] (fun v3 w' => ∃ (j : Nat) (ns : List S50), j ≤ m ∧ v3 = .int .i64 j ∧ zaa (ns.length = m) ∧ zaa (k50.R 50 w' w0.heap.size (fun q => oki q ∧ some q ≠ (Value.slice A1 y.f1.length c1).ownBlock) (.slice A2 m c2) ns) ∧ zaa (Kd.H k40 40 w' w0.heap.size (fun q => q < w.heap.size) (.slice (some ⟨g, 0, none⟩) n c) q i oki [.int .i64 y.f0, .slice A1 y.f1.length c1, .slice A2 m c2, .string y.f3, .int .i64 y.f4, .int .i64 y.f5]) ∧ zaa (w'.heap[w.heap.size]? = some (.cells #[.slice (some ⟨g, 0, none⟩) n c] 24 (0, 0))) ∧ zaa (Below w0.heap.size w0 w') ∧ zaa (g < w'.heap.size)) (fun v3 _ => m - (intOf v3).toNat)
   case atStart => exact ⟨0, y.f2, Nat.zero_le _, rfl, ⟨HM2.out.symm⟩, HR21, HH1, HX1, HB1, HGL1⟩
   case round =>
    clear HR21 HH1 HX1 HB1 HGL1 HM2
    obtain ⟨j, ns, hj, rfl, HNL, HR, HH, HX, HB, HGL2⟩ := hrel
    have hctx := (zad HX.out 0).trans rfl
    have hlt := HLT.out
    have hx2 : wr.cell? ⟨g, i * 6 + 2, none⟩ = some (.slice A2 m c2) := by
     obtain ⟨rows, _, _, _, _, hcell, _⟩ := Kd.H_raw HH.out (by omega) (by omega)
     have := hcell 2 _ rfl
     rwa [Int.toNat_natCast] at this
    by_cases hjl : j < m
    ·obtain ⟨g2, cap2, e2, hb2, hgl2, cells2, hgc2⟩ := Kd.R_form HR.out (by rw [HNL.out]; omega)
     rw [HNL.out] at e2
     injection e2 with e21 _ e23
     subst e21
     subst e23
     have HG2 : zaa (oki g2) := ⟨(HR.out.1 g2 rfl).1⟩
     obtain ⟨cc, hcl, hcM, hcc⟩ := Kd.R_get HR.out (⟨⟨#[]⟩, 0⟩ : S50) (j : Int) (by omega) (by omega)
     obtain ⟨xx, hxx⟩ : ∃ xx, xx = ns.getD (j : Int).toNat (⟨⟨#[]⟩, 0⟩ : S50) := ⟨_, rfl⟩
     rw [← hxx] at hcM
     obtain rfl := k50_openM hcM
     have HCC : zaa (∀ jj u, [Value.string xx.f0, Value.int .i64 xx.f1][jj]? = some u → wr.cell? ⟨g2, (j : Int).toNat * k50.sz + jj, none⟩ = some u) := ⟨fun jj u h => by have h2 := hcc jj u h; rwa [Addr.add_lit, Nat.zero_add] at h2⟩
     clear hcl hcM hcc hb2 hgc2 hxx
     go_wp2_with (first | (refine Kd.R_store k50 (w0 := w0) w0.heap.size rfl rfl 50 (.tmp 37) (.tmp 36) rfl 50 (o' := j * 2) (j : Int) 0 ns ⟨⟨#[115, 112, 111, 105, 108, 116]⟩, 0⟩ (.agg #[.string ⟨#[115, 112, 111, 105, 108, 116]⟩, .int .i64 0]) [.string ⟨#[115, 112, 111, 105, 108, 116]⟩, .int .i64 0] [.string xx.f0, .int .i64 xx.f1] (fun q => oki q ∧ some q ≠ (Value.slice A1 y.f1.length c1).ownBlock) (fun _ => False) rfl rfl rfl rfl (by kernel_rfl) ?_ HR.out (by omega) (by omega) rfl HCC.out (by show 0 + 2 ≤ 2; omega) (k50_mkM _ _ _ ⟨⟨#[115, 112, 111, 105, 108, 116]⟩, 0⟩) (fun _ hk => hk.elim) HB.out ?_; (intro qq hq; simp only [List.mem_cons, List.not_mem_nil, or_false] at hq; rcases hq with rfl | rfl <;> rfl); intro w4 hR4 hb4 hg4; have HX4 := zaa.mk (zba HX.out hg4 (fun e => by injection e with e; have h1 := (HOK.out g2 HG2.out).1; omega)); have HR4 := zaa.mk hR4; have HB4 := zaa.mk hb4; have HH4 := zaa.mk (Kd.H_grown HH.out hg4 (fun q hq => by injection hq with hq; rw [← hq]; exact HG2.out)); have HGL4 := zaa.mk (Nat.lt_of_lt_of_le HGL2.out hg4.size); clear hR4 hb4 hg4))
     go_roundw
     case rel => exact ⟨j + 1, _, by omega, by go_num, ⟨by rw [List.length_set]; exact HNL.out⟩, HR4, HH4, HX4, HB4, HGL4⟩
     case measure => simp [intOf]; omega
    ·have hge : decide ((j : Int) < (m : Int)) = false := decide_eq_false (by omega)
     go_wp2_with (first | (refine Kd.H_store k40 (w0 := w0) w0.heap.size rfl rfl 40 (.tmp 42) (.tmp 41) rfl 40 (o' := i * 6) (i : Int) 0 q ⟨99, [], [], ⟨#[]⟩, 0, 0⟩ (.agg #[.int .i64 99, .slice none 0 0, .slice none 0 0, .string ⟨#[]⟩, .int .i64 0, .int .i64 0]) [.int .i64 99, .slice none 0 0, .slice none 0 0, .string ⟨#[]⟩, .int .i64 0, .int .i64 0] [.int .i64 y.f0, .slice A1 y.f1.length c1, .slice A2 m c2, .string y.f3, .int .i64 y.f4, .int .i64 y.f5] (fun q => q < w.heap.size) oki (fun _ => False) rfl rfl rfl rfl (by kernel_rfl) ?_ HH.out (by omega) (by omega) (by show 0 + 6 ≤ 6; omega) (zcr _ _ _ ⟨99, [], [], ⟨#[]⟩, 0, 0⟩ (Kd.R_nil _ _ _ _ _) (Kd.R_nil _ _ _ _ _)) (fun _ hk => hk.elim) HB.out ?_; (intro qq hq; simp only [List.mem_cons, List.not_mem_nil, or_false] at hq; rcases hq with rfl | rfl | rfl | rfl | rfl | rfl <;> rfl); intro w4 hS4 hb4 hg4; have HX4 := zaa.mk (zba HX.out hg4 (fun e => by have := HGN.out; injection e with e; omega)); have HS4 := zaa.mk hS4; have HB4 := zaa.mk hb4; clear hS4 hb4 hg4))
     go_roundw
     case rel => exact ⟨i + 1, _, by omega, by go_num, ⟨by rw [List.length_set]; exact HL.out⟩, ⟨fun jj hjj => by rw [Int.toNat_natCast, List.getElem?_set_ne (by omega)]; exact HQ.out jj (by omega)⟩, HS4, HX4, HB4⟩
     case measure => simp [intOf]; omega
  ·have hge : decide ((i : Int) < (n : Int)) = false := decide_eq_false (by omega)
   go_wp2
   go_end0
   exact ⟨rfl, HB.out⟩
end Go.Proofs.YtjghephnjkffcaaGreat.PAll
