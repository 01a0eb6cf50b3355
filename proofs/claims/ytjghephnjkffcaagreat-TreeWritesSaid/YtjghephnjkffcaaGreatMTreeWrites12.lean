/- Parts of one proof, merged by a program of this repo: walks over the given program and plain facts. -/
import Derived.Test.YtjghephnjkffcaaGreatMTreeWrites11
import Derived.Test.YtjghephnjkffcaaGreatMTreeWrites7
import Derived.Test.YtjghephnjkffcaaGreatMTreeWrites4
import Derived.Test.YtjghephnjkffcaaGreatMTreeWrites9
import Derived.Test.YtjghephnjkffcaaGreatMTreeWrites5
import Derived.Test.YtjghephnjkffcaaGreatMTreeWrites2
import Derived.Deep.RegionHeld3
import Derived.Deep.DrawnRows
import Derived.Deep.LoopGhost
namespace Go.Proofs.YtjghephnjkffcaaGreat.PAll
open Go.RowKit Go.Proofs.YtjghephnjkffcaaGreatW.PrintWords Go.Proofs.YtjghephnjkffcaaGreatW.PrintLast Go.Proofs.YtjghephnjkffcaaGreatW.PrintMore
attribute [local go_sem] zb2 zb0 zcn zcm zbF zbE zb1 zbZ
set_option linter.unusedVariables false
set_option linter.unusedSimpArgs false
theorem za8 {W : World} {g : Nat} {a : Value} {t : TypeId} (h : W.heap[g]? = some (.cells #[a] t (0, 0))) : W.cell? ⟨g, 0, none⟩ = some a := (zac h 0).trans rfl
def refWriteE (l : List S40) (n fr : Int) (b : List Int) : Option Int :=
 (za5.f l n).bind fun e => some (if e = 0 then (if fr < 0 then 28 else if (b.length : Int) > 16384 then 22 else if fr > 16384 - (b.length : Int) then 22 else 0) else e)
theorem file_in {l : List S40} {n e : Int} (h : za5.f l n = some e) : 0 ≤ n ∧ n < (l.length : Int) := by
 unfold za5.f at h
 by_cases h0 : 0 ≤ n
 ·rw [if_pos h0] at h
  by_cases h1 : n < (l.length : Int)
  ·exact ⟨h0, h1⟩
  ·rw [if_neg h1] at h; cases h
 ·rw [if_neg h0] at h; cases h
theorem sum_small {a b c : Nat} (h : a + c ≤ 16384) (hb : b < c) : wrap64 ((a : Int) + (b : Int)) = (a : Int) + (b : Int) ∧ ((a : Int) + (b : Int)).toNat = a + b ∧ 0 ≤ (a : Int) + (b : Int) := by
 refine ⟨?_, by omega, by omega⟩
 unfold wrap64
 omega
theorem wrap_one {i c : Nat} (h : i < c) (hc : c ≤ 16384) : wrap64 ((i : Int) + 1) = ((i + 1 : Nat) : Int) := by
 unfold wrap64
 omega
def upD (o : List Int) (t : Nat) : List Int := o ++ List.replicate (t - o.length) 0
def putB (d : List Int) (f : Nat) (b : List Int) (i : Nat) : List Int := splice d f (b.take i)
theorem putB_len (d : List Int) (f : Nat) (b : List Int) (i : Nat) (h : f + b.length ≤ d.length) : (putB d f b i).length = d.length := by
 unfold putB splice
 rw [List.length_append, List.length_append, List.length_take, List.length_take, List.length_drop]
 omega
theorem putB_zero (d : List Int) (f : Nat) (b : List Int) : putB d f b 0 = d := by
 unfold putB splice
 rw [List.take_zero, List.length_nil, Nat.add_zero, List.nil_append, List.take_append_drop]
theorem putB_step (d : List Int) (f : Nat) (b : List Int) (i : Nat) (hi : i < b.length) (h : f + b.length ≤ d.length) : (putB d f b i).set (f + i) (b.getD i 0) = putB d f b (i + 1) := by
 apply List.ext_getElem?
 intro j
 unfold putB splice
 have e : b.getD i 0 = b[i] := by rw [List.getD_eq_getElem?_getD, List.getElem?_eq_getElem hi]; rfl
 rw [e]
 have l1 : (d.take f).length = f := by rw [List.length_take]; omega
 have l2 : (b.take i).length = i := by rw [List.length_take]; omega
 have l3 : (b.take (i + 1)).length = i + 1 := by rw [List.length_take]; omega
 have l4 : ((d.take f) ++ (b.take i ++ d.drop (f + i))).length = d.length := by simp only [List.length_append, List.length_take, List.length_drop]; omega
 simp only [List.getElem?_set, List.getElem?_append, l1, l2, l3, l4, List.getElem?_drop, List.getElem?_take]
 by_cases c : f + i = j
 ·rw [if_pos c, if_pos (by omega), if_neg (by omega), if_pos (by omega), if_pos (by omega), show j - f = i by omega, List.getElem?_eq_getElem hi]
 ·rw [if_neg c]
  by_cases c1 : j < f
  ·simp only [if_pos c1]
  ·simp only [if_neg c1]
   by_cases c2 : j < f + i
   ·rw [if_pos (by omega), if_pos (by omega), if_pos (by omega), if_pos (by omega)]
   ·rw [if_neg (by omega), if_neg (by omega)]
    congr 1
    omega
set_option maxHeartbeats 8000000 in
set_option maxRecDepth 100000 in
theorem zct.no (k : Nat) (A0 : Option Addr) (c0 : Nat) (l : List S40) (n fr : Int) (AB : Option Addr) (cB : Nat) (b : List Int) (now : Int) (e : Int) (w : World) (hr0 : Kd.C k40 w A0 l.length l) (hc0 : l.length ≤ c0) (hE : refWriteE l n fr b = some e) (hz : ¬ (e = 0 ∧ b.length ≠ 0)) :
  Calls Tryz.prog 42 #[.agg #[.slice A0 l.length c0], .int .i64 n, .int .i64 fr, .slice AB b.length cB, .int .i64 now] w fun e' w' => e' = .returned (.tuple #[.agg #[.slice A0 l.length c0], .int .i64 e]) ∧ Below w.heap.size w w' := by
 have HR0 := zaa.mk hr0
 have HC0 := zaa.mk hc0
 have hut := Tryz.underlying24
 have hun := Tryz.underlying40
 have hum := Tryz.underlying50
 have HB := zaa.mk (zad (zad (Below.refl w.heap.size w) (.cells #[.slice A0 l.length c0] 24)) (.cells #[.slice none 0 0] 24))
 have HT := zaa.mk (zai (zbb w (.cells #[.slice A0 l.length c0] 24)) (.cells #[.slice none 0 0] 24))
 have HV := zaa.mk (zbb (w.alloc (.cells #[.slice A0 l.length c0] 24)) (.cells #[.slice none 0 0] 24))
 rw [World.size_alloc] at HV
 clear hr0 hc0
 unfold refWriteE at hE
 obtain ⟨e1, hf, hE⟩ := Option.bind_eq_some_iff.mp hE
 have hin := file_in hf
 have HF := zaa.mk hf
 clear hf
 replace hE := Option.some.inj hE
 by_cases z : e1 = 0
 ·rw [if_pos z] at hE
  subst z
  by_cases h1 : fr < 0
  ·rw [if_pos h1] at hE
   subst hE
   have F0 : decide (fr < 0) = true := decide_eq_true (by omega)
   clear h1 hin
   have ht0 := za8 HT.out
   have htf := zaf HT.out 0
   have hv0 := za8 HV.out
   have hvf := zaf HV.out 0
   go_enter Tryz.func42, Tryz.ntmps42
   go_wp2_with (first | fail)
   refine (za5.calls A0 c0 l n 0 _ (Kd.C_below HR0.out HB.out) HC0.out HF.out).mono ?_
   rintro e' w1 ⟨rfl, hb⟩
   clear ht0 htf hv0 hvf
   replace HT := zaa.mk (zan (by repeat (first | exact HT.out | apply zaj | apply zai | apply zak)) hb)
   replace HV := zaa.mk (zan (by repeat (first | exact HV.out | apply zaj | apply zai | apply zak)) hb)
   replace HB := zaa.mk (zam (by repeat (first | exact HB.out | apply zad | apply zab | apply zae | apply zaB)) hb)
   clear hb
   have ht0 := za8 HT.out
   have htf := zaf HT.out 0
   have hv0 := za8 HV.out
   have hvf := zaf HV.out 0
   go_wp2_with fail
   refine bodyPost_ret (zbl rfl _ _ (w.heap.size + 1) 24 #[.slice A0 l.length c0] (0, 0) _ rfl (zaP HV.out 0 _ rfl) Tryz.underlying24 rfl (by kernel_rfl)) rfl ?_
   have hbz := HB.out.setCell (p := ⟨w.heap.size + 1, 0, none⟩) (by show _ ≤ _ + 1; omega) (.slice A0 l.length c0)
   exact ⟨rfl, hbz⟩
  ·rw [if_neg h1] at hE
   have F0 : decide (fr < 0) = false := decide_eq_false (by omega)
   by_cases h2 : (b.length : Int) > 16384
   ·rw [if_pos h2] at hE
    subst hE
    have L1 : decide ((b.length : Int) > 16384) = true := decide_eq_true (by omega)
    have L2 : decide (b.length > 16384) = true := decide_eq_true (by omega)
    clear h1 h2 hin
    have ht0 := za8 HT.out
    have htf := zaf HT.out 0
    have hv0 := za8 HV.out
    have hvf := zaf HV.out 0
    go_enter Tryz.func42, Tryz.ntmps42
    go_wp2_with (first | fail)
    refine (za5.calls A0 c0 l n 0 _ (Kd.C_below HR0.out HB.out) HC0.out HF.out).mono ?_
    rintro e' w1 ⟨rfl, hb⟩
    clear ht0 htf hv0 hvf
    replace HT := zaa.mk (zan (by repeat (first | exact HT.out | apply zaj | apply zai | apply zak)) hb)
    replace HV := zaa.mk (zan (by repeat (first | exact HV.out | apply zaj | apply zai | apply zak)) hb)
    replace HB := zaa.mk (zam (by repeat (first | exact HB.out | apply zad | apply zab | apply zae | apply zaB)) hb)
    clear hb
    have ht0 := za8 HT.out
    have htf := zaf HT.out 0
    have hv0 := za8 HV.out
    have hvf := zaf HV.out 0
    go_wp2_with fail
    refine bodyPost_ret (zbl rfl _ _ (w.heap.size + 1) 24 #[.slice A0 l.length c0] (0, 0) _ rfl (zaP HV.out 0 _ rfl) Tryz.underlying24 rfl (by kernel_rfl)) rfl ?_
    have hbz := HB.out.setCell (p := ⟨w.heap.size + 1, 0, none⟩) (by show _ ≤ _ + 1; omega) (.slice A0 l.length c0)
    exact ⟨rfl, hbz⟩
   ·rw [if_neg h2] at hE
    have L1 : decide ((b.length : Int) > 16384) = false := decide_eq_false (by omega)
    have L2 : decide (b.length > 16384) = false := decide_eq_false (by omega)
    by_cases h3 : fr > 16384 - (b.length : Int)
    ·rw [if_pos h3] at hE
     subst hE
     have SW : wrap64 (16384 - (b.length : Int)) = 16384 - (b.length : Int) := by unfold wrap64; omega
     have S1 : decide (wrap64 (16384 - (b.length : Int)) < fr) = true := decide_eq_true (by rw [SW]; omega)
     clear SW
     clear hin
     have ht0 := za8 HT.out
     have htf := zaf HT.out 0
     have hv0 := za8 HV.out
     have hvf := zaf HV.out 0
     go_enter Tryz.func42, Tryz.ntmps42
     go_wp2_with (first | fail)
     refine (za5.calls A0 c0 l n 0 _ (Kd.C_below HR0.out HB.out) HC0.out HF.out).mono ?_
     rintro e' w1 ⟨rfl, hb⟩
     clear ht0 htf hv0 hvf
     replace HT := zaa.mk (zan (by repeat (first | exact HT.out | apply zaj | apply zai | apply zak)) hb)
     replace HV := zaa.mk (zan (by repeat (first | exact HV.out | apply zaj | apply zai | apply zak)) hb)
     replace HB := zaa.mk (zam (by repeat (first | exact HB.out | apply zad | apply zab | apply zae | apply zaB)) hb)
     clear hb
     have ht0 := za8 HT.out
     have htf := zaf HT.out 0
     have hv0 := za8 HV.out
     have hvf := zaf HV.out 0
     go_wp2_with fail
     refine bodyPost_ret (zbl rfl _ _ (w.heap.size + 1) 24 #[.slice A0 l.length c0] (0, 0) _ rfl (zaP HV.out 0 _ rfl) Tryz.underlying24 rfl (by kernel_rfl)) rfl ?_
     have hbz := HB.out.setCell (p := ⟨w.heap.size + 1, 0, none⟩) (by show _ ≤ _ + 1; omega) (.slice A0 l.length c0)
     exact ⟨rfl, hbz⟩
    ·rw [if_neg h3] at hE
     subst hE
     have SW : wrap64 (16384 - (b.length : Int)) = 16384 - (b.length : Int) := by unfold wrap64; omega
     have S1 : decide (wrap64 (16384 - (b.length : Int)) < fr) = false := decide_eq_false (by rw [SW]; omega)
     clear SW
     have hb0 : b.length = 0 := Decidable.by_contra fun q => hz ⟨rfl, q⟩
     have E0 : ((b.length : Int) == 0) = true := by rw [beq_iff_eq]; omega
     clear hin hz
     have ht0 := za8 HT.out
     have htf := zaf HT.out 0
     have hv0 := za8 HV.out
     have hvf := zaf HV.out 0
     go_enter Tryz.func42, Tryz.ntmps42
     go_wp2_with (first | fail)
     refine (za5.calls A0 c0 l n 0 _ (Kd.C_below HR0.out HB.out) HC0.out HF.out).mono ?_
     rintro e' w1 ⟨rfl, hb⟩
     clear ht0 htf hv0 hvf
     replace HT := zaa.mk (zan (by repeat (first | exact HT.out | apply zaj | apply zai | apply zak)) hb)
     replace HV := zaa.mk (zan (by repeat (first | exact HV.out | apply zaj | apply zai | apply zak)) hb)
     replace HB := zaa.mk (zam (by repeat (first | exact HB.out | apply zad | apply zab | apply zae | apply zaB)) hb)
     clear hb
     have ht0 := za8 HT.out
     have htf := zaf HT.out 0
     have hv0 := za8 HV.out
     have hvf := zaf HV.out 0
     go_wp2_with fail
     refine bodyPost_ret (zbl rfl _ _ (w.heap.size + 1) 24 #[.slice A0 l.length c0] (0, 0) _ rfl (zaP HV.out 0 _ rfl) Tryz.underlying24 rfl (by kernel_rfl)) rfl ?_
     have hbz := HB.out.setCell (p := ⟨w.heap.size + 1, 0, none⟩) (by show _ ≤ _ + 1; omega) (.slice A0 l.length c0)
     exact ⟨rfl, hbz⟩
 ·rw [if_neg z] at hE
  subst hE
  have Z1 : (e1 != 0) = true := by simpa using z
  clear hin
  have ht0 := za8 HT.out
  have htf := zaf HT.out 0
  have hv0 := za8 HV.out
  have hvf := zaf HV.out 0
  go_enter Tryz.func42, Tryz.ntmps42
  go_wp2_with (first | fail)
  refine (za5.calls A0 c0 l n e1 _ (Kd.C_below HR0.out HB.out) HC0.out HF.out).mono ?_
  rintro e' w1 ⟨rfl, hb⟩
  clear ht0 htf hv0 hvf
  replace HT := zaa.mk (zan (by repeat (first | exact HT.out | apply zaj | apply zai | apply zak)) hb)
  replace HV := zaa.mk (zan (by repeat (first | exact HV.out | apply zaj | apply zai | apply zak)) hb)
  replace HB := zaa.mk (zam (by repeat (first | exact HB.out | apply zad | apply zab | apply zae | apply zaB)) hb)
  clear hb
  have ht0 := za8 HT.out
  have htf := zaf HT.out 0
  have hv0 := za8 HV.out
  have hvf := zaf HV.out 0
  go_wp2_with fail
  refine bodyPost_ret (zbl rfl _ _ (w.heap.size + 1) 24 #[.slice A0 l.length c0] (0, 0) _ rfl (zaP HV.out 0 _ rfl) Tryz.underlying24 rfl (by kernel_rfl)) rfl ?_
  have hbz := HB.out.setCell (p := ⟨w.heap.size + 1, 0, none⟩) (by show _ ≤ _ + 1; omega) (.slice A0 l.length c0)
  exact ⟨rfl, hbz⟩
set_option maxHeartbeats 8000000 in
set_option maxRecDepth 100000 in
theorem zct.ok (k : Nat) (A0 : Option Addr) (c0 : Nat) (l : List S40) (n fr : Int) (AB : Option Addr) (cB : Nat) (b : List Int) (now : Int) (r : List S40) (w : World) (hr0 : Kd.C k40 w A0 l.length l) (hc0 : l.length ≤ c0) (hrb : Kd.C (Kd.int .u8) w AB b.length b) (hcb : b.length ≤ cB) (hE : refWriteE l n fr b = some 0) (hne : b.length ≠ 0) (hcp : za1.f k l = some l) (hld : (zah l n).f1.length ≤ 1000000) (hr : r = l.set n.toNat { zah l n with f1 := putB (upD (zah l n).f1 (fr.toNat + b.length)) fr.toNat b b.length, f5 := now }) :
  Calls Tryz.prog 42 #[.agg #[.slice A0 l.length c0], .int .i64 n, .int .i64 fr, .slice AB b.length cB, .int .i64 now] w fun e' w' => ∃ (A : Option Addr) (c : Nat), e' = .returned (.tuple #[.agg #[.slice A r.length c], .int .i64 0]) ∧ Kd.S k40 40 w' w.heap.size (fun _ => True) (.slice A r.length c) r ∧ Below w.heap.size w w' := by
 have HR0 := zaa.mk hr0
 have HC0 := zaa.mk hc0
 have hut := Tryz.underlying24
 have hun := Tryz.underlying40
 have hum := Tryz.underlying50
 have HB := zaa.mk (zad (zad (Below.refl w.heap.size w) (.cells #[.slice A0 l.length c0] 24)) (.cells #[.slice none 0 0] 24))
 have HT := zaa.mk (zai (zbb w (.cells #[.slice A0 l.length c0] 24)) (.cells #[.slice none 0 0] 24))
 have HV := zaa.mk (zbb (w.alloc (.cells #[.slice A0 l.length c0] 24)) (.cells #[.slice none 0 0] 24))
 rw [World.size_alloc] at HV
 clear hr0 hc0
 have HRB := zaa.mk hrb
 have HCB := zaa.mk hcb
 have HCP := zaa.mk hcp
 have HLD := zaa.mk hld
 have HRR := zaa.mk hr
 have hbu := Tryz.underlying37
 clear hrb hcb hcp hld hr
 unfold refWriteE at hE
 obtain ⟨e1, hf, hE⟩ := Option.bind_eq_some_iff.mp hE
 have hin := file_in hf
 have HF := zaa.mk hf
 clear hf
 replace hE := Option.some.inj hE
 by_cases z : e1 = 0
 ·rw [if_pos z] at hE
  subst z
  have hc : 0 ≤ fr ∧ (b.length : Int) ≤ 16384 ∧ fr ≤ 16384 - (b.length : Int) := by
   by_cases h1 : fr < 0
   ·rw [if_pos h1] at hE; exact absurd hE (by decide)
   ·rw [if_neg h1] at hE
    by_cases h2 : (b.length : Int) > 16384
    ·rw [if_pos h2] at hE; exact absurd hE (by decide)
    ·rw [if_neg h2] at hE
     by_cases h3 : fr > 16384 - (b.length : Int)
     ·rw [if_pos h3] at hE; exact absurd hE (by decide)
     ·exact ⟨by omega, by omega, by omega⟩
  obtain ⟨f, rfl⟩ : ∃ f : Nat, fr = (f : Int) := ⟨fr.toNat, by omega⟩
  obtain ⟨h1, h2, h3⟩ := hc
  clear hE
  have F0 : decide ((f : Int) < 0) = false := decide_eq_false (by omega)
  have L1 : decide ((b.length : Int) > 16384) = false := decide_eq_false (by omega)
  have L2 : decide (b.length > 16384) = false := decide_eq_false (by omega)
  have SW : wrap64 (16384 - (b.length : Int)) = 16384 - (b.length : Int) := by unfold wrap64; omega
  have S1 : decide (wrap64 (16384 - (b.length : Int)) < (f : Int)) = false := decide_eq_false (by rw [SW]; omega)
  clear SW
  have E0 : ((b.length : Int) == 0) = false := by rw [beq_eq_false_iff_ne]; omega
  have HIN := zaa.mk hin
  have HC1 : zaa (b.length ≤ 16384 ∧ f + b.length ≤ 16384) := ⟨by omega, by omega⟩
  have HNE := zaa.mk hne
  have p0 := eq_true hin.1
  have p1 := eq_true hin.2
  clear h1 h2 h3 hin hne
  have ht0 := za8 HT.out
  have htf := zaf HT.out 0
  have hv0 := za8 HV.out
  have hvf := zaf HV.out 0
  go_enter Tryz.func42, Tryz.ntmps42
  go_wp2_with (first | fail)
  refine (za5.calls A0 c0 l n 0 _ (Kd.C_below HR0.out HB.out) HC0.out HF.out).mono ?_
  rintro e' w1 ⟨rfl, hb⟩
  clear ht0 htf hv0 hvf
  replace HT := zaa.mk (zan (by repeat (first | exact HT.out | apply zaj | apply zai | apply zak)) hb)
  replace HV := zaa.mk (zan (by repeat (first | exact HV.out | apply zaj | apply zai | apply zak)) hb)
  replace HB := zaa.mk (zam (by repeat (first | exact HB.out | apply zad | apply zab | apply zae | apply zaB)) hb)
  clear hb
  have ht0 := za8 HT.out
  have htf := zaf HT.out 0
  have hv0 := za8 HV.out
  have hvf := zaf HV.out 0
  go_wp2_with fail
  refine (za1.calls k A0 c0 l l _ (Kd.C_below HR0.out HB.out) HC0.out HCP.out).mono ?_
  rintro e' w5 ⟨v, rfl, hS, hb⟩
  obtain ⟨g, cu, rfl, hgN, hgl, _⟩ := Kd.S_form hS (by have := HIN.out; omega)
  have HS := zaa.mk (Kd.zbD (Kd.zbt (ok' := fun q => q ≠ w.heap.size ∧ q ≠ w.heap.size + 1 ∧ q < w5.heap.size) (Kd.S_bound hS) (fun q hq => ⟨by have := zaO HT.out; have := hq.2.1; omega, by have := zaO HV.out; have := hq.2.1; omega, hq.2.2.1⟩)) HB.out.size)
  clear hS hgN hgl
  clear ht0 htf hv0 hvf
  replace HT := zaa.mk (zan (by repeat (first | exact HT.out | apply zaj | apply zai | apply zak)) hb)
  replace HV := zaa.mk (zan (by repeat (first | exact HV.out | apply zaj | apply zai | apply zak)) hb)
  replace HB := zaa.mk (zam (by repeat (first | exact HB.out | apply zad | apply zab | apply zae | apply zaB)) hb)
  clear hb
  have HLT : zaa (w.heap.size < w5.heap.size ∧ w.heap.size + 1 < w5.heap.size) := ⟨zaO HT.out, zaO HV.out⟩
  go_upto_region 11 with fail
  replace HT := zaa.mk (zai HT.out (.cells #[.slice (some ⟨g, 0, none⟩) l.length cu] 24))
  replace HV := zaa.mk (zai HV.out (.cells #[.slice (some ⟨g, 0, none⟩) l.length cu] 24))
  replace HB := zaa.mk (zad HB.out (.cells #[.slice (some ⟨g, 0, none⟩) l.length cu] 24))
  replace HS := zaa.mk (Kd.za4 HS.out (zad (Below.refl _ _) (.cells #[.slice (some ⟨g, 0, none⟩) l.length cu] 24)))
  have HU := zaa.mk (zbb w5 (.cells #[.slice (some ⟨g, 0, none⟩) l.length cu] 24))
  have hgt : w.heap.size < w5.heap.size ∧ w.heap.size + 1 < w5.heap.size := HLT.out
  obtain ⟨g6, hg6⟩ : ∃ g6, g6 = w5.heap.size := ⟨_, rfl⟩
  rw [← hg6] at HU HS hgt ⊢
  clear hg6 HLT
  replace HS := zaa.mk (Kd.zbt (ok' := fun q => q ≠ w.heap.size ∧ q ≠ w.heap.size + 1 ∧ q ≠ g6) HS.out (fun q hq => ⟨hq.1, hq.2.1, by omega⟩))
  have ht0 := za8 HT.out
  have htf := zaf HT.out 0
  have hv0 := za8 HV.out
  have hvf := zaf HV.out 0
  have hu0 := za8 HU.out
  have huf := zaf HU.out 0
  have HWD := withD_same l HIN.out.1 HIN.out.2
  obtain ⟨old, hold⟩ : ∃ o, o = (zah l n).f1 := ⟨_, rfl⟩
  rw [← hold] at HWD
  have HS' := zaa.mk (show Kd.S k40 40 (w5.alloc (.cells #[.slice (some ⟨g, 0, none⟩) l.length cu] 24)) w.heap.size (fun q => q ≠ w.heap.size ∧ q ≠ w.heap.size + 1 ∧ q ≠ g6) (.slice (some ⟨g, 0, none⟩) l.length cu) (withD l n old) by rw [HWD]; exact HS.out)
  have HOL : zaa (old.length ≤ 1000000) := ⟨by rw [hold]; exact HLD.out⟩
  rw [← hold] at HRR
  clear HS HLD HWD hold
  have HS := HS'
  clear HS'
  go_wp2
  go_loopg [] (f + b.length - old.length) (fun gk w' => ∃ d : List Int, gk = f + b.length - d.length ∧ zaa (d = old ++ List.replicate (d.length - old.length) 0 ∧ old.length ≤ d.length ∧ (d.length = old.length ∨ d.length ≤ f + b.length)) ∧ zaa (Kd.S k40 40 w' w.heap.size (fun q => q ≠ w.heap.size ∧ q ≠ w.heap.size + 1 ∧ q ≠ g6) (.slice (some ⟨g, 0, none⟩) l.length cu) (withD l n d)) ∧ zaa (w'.heap[w.heap.size]? = some (.cells #[.slice A0 l.length c0] 24 (0, 0))) ∧ zaa (w'.heap[w.heap.size + 1]? = some (.cells #[.slice none 0 0] 24 (0, 0))) ∧ zaa (w'.heap[g6]? = some (.cells #[.slice (some ⟨g, 0, none⟩) l.length cu] 24 (0, 0))) ∧ zaa (Below w.heap.size w w'))
  case atStart => exact ⟨old, rfl, ⟨by simp⟩, HS, HT, HV, HU, HB⟩
  case round =>
   clear HS HT HV HU HB
   obtain ⟨d, hgk, HD, HS, HT, HV, HU, HB⟩ := hrel
   obtain ⟨A1, m1, y1, y2, y3, y4, y5, y6, y7, y8, y9, y10⟩ := grow2 HS.out HIN.out.1 HIN.out.2 (fun q hq => ⟨by have := zaO HT.out; omega, by have := zaO HV.out; omega, by have := zaO HU.out; omega⟩)
   have HY3 := zaa.mk y3
   have HY2 := zaa.mk y2
   have HY8 := zaa.mk y8
   have HY9 := zaa.mk y9
   have HYA := zaa.mk y10
   have HG := zaa.mk (And.intro y5 (And.intro y6 y7))
   clear y2 y3 y5 y6 y7 y8 y9 y10
   have hu0 := za8 HU.out
   by_cases hlt : d.length < f + b.length
   ·have C1 : decide ((d.length : Int) < (f : Int) + (b.length : Int)) = true := decide_eq_true (by omega)
    have C2 : decide (d.length < f + b.length) = true := decide_eq_true hlt
    have C3 : f + b.length ≤ 16384 := HC1.out.2
    go_wp2_with (first | (at_builtin; refine Kd.R_append (Kd.int .u8) (w0 := w) w.heap.size rfl (.tmp 61) (.tmp 62) 37 5 (.int .u8 0) 1 rfl Tryz.underlying37 info5 rfl (by decide) (by omega) (.slice A1 d.length m1) d 0 [.int .u8 0] (fun _ => True) (fun _ => False) rfl rfl rfl (fun _ hk => hk.elim) (fun _ _ => trivial) HY8.out HB.out HB.out.size (by have := HC1.out; omega) ?_; intro v1 w6 hr6 hb6 hg6 hat6; obtain ⟨A6, q6, m6, rfl⟩ := slice_any hr6; obtain ⟨⟨u1, hu1⟩, hfz, hs6⟩ := HYA.out w6 _ (d ++ [0]) hg6 hr6 hat6; have HS6 := zaa.mk hs6; have hnt : ∀ q, (Value.slice A1 d.length m1).ownBlock = some q → q ≠ w.heap.size ∧ q ≠ w.heap.size + 1 ∧ q ≠ g6 := HY9.out; have HT6 := zaa.mk (zbe HT.out hg6 (fun e => (hnt _ e.symm).1 rfl)); have HV6 := zaa.mk (zbe HV.out hg6 (fun e => (hnt _ e.symm).2.1 rfl)); have HU6 := zaa.mk (zbe HU.out hg6 (fun e => (hnt _ e.symm).2.2 rfl)); have HB6 := zaa.mk hb6; clear hr6 hb6 hg6 hat6 hs6 hnt))
    go_roundg (f + b.length - (d.length + 1))
    case measure => omega
    case rel => exact ⟨d ++ [0], by simp, ⟨by have := HD.out; simp only [List.length_append, List.length_singleton]; refine ⟨?_, by omega, by omega⟩; rw [show d.length + 1 - old.length = (d.length - old.length) + 1 by omega, List.replicate_succ', ← List.append_assoc, ← HD.out.1]⟩, HS6, ⟨zaD HT6.out (p := ⟨g, n.toNat * 6 + 1, none⟩) (fun e => HG.out.2.2.1 e.symm) _⟩, ⟨zaD HV6.out (p := ⟨g, n.toNat * 6 + 1, none⟩) (fun e => HG.out.2.2.2.1 e.symm) _⟩, ⟨zaD HU6.out (p := ⟨g, n.toNat * 6 + 1, none⟩) (fun e => HG.out.2.2.2.2 e.symm) _⟩, ⟨HB6.out.setCell (p := ⟨g, n.toNat * 6 + 1, none⟩) HG.out.1 _⟩⟩
   ·have C1 : decide ((d.length : Int) < (f : Int) + (b.length : Int)) = false := decide_eq_false (by omega)
    have C2 : decide (d.length < f + b.length) = false := decide_eq_false hlt
    have C3 : f + b.length ≤ 16384 := HC1.out.2
    have HDU : zaa (d = upD old (f + b.length) ∧ f + b.length ≤ d.length) := by
     have h := HD.out
     refine ⟨?_, by omega⟩
     unfold upD
     rw [show f + b.length - old.length = d.length - old.length by omega]
     exact h.1
    clear HYA HY8 HY9 HY3 HY2
    go_wp2
    go_loopg [15] (b.length) (fun gk v15 w' => ∃ i : Nat, i ≤ b.length ∧ gk = b.length - i ∧ v15 = .int .i64 i ∧ zaa (Kd.S k40 40 w' w.heap.size (fun q => q ≠ w.heap.size ∧ q ≠ w.heap.size + 1 ∧ q ≠ g6) (.slice (some ⟨g, 0, none⟩) l.length cu) (withD l n (putB d f b i))) ∧ zaa (w'.heap[w.heap.size]? = some (.cells #[.slice A0 l.length c0] 24 (0, 0))) ∧ zaa (w'.heap[w.heap.size + 1]? = some (.cells #[.slice none 0 0] 24 (0, 0))) ∧ zaa (w'.heap[g6]? = some (.cells #[.slice (some ⟨g, 0, none⟩) l.length cu] 24 (0, 0))) ∧ zaa (Below w.heap.size w w'))
    case atStart => exact ⟨0, Nat.zero_le _, rfl, rfl, by rw [putB_zero]; exact HS, HT, HV, HU, HB⟩
    case round =>
     clear HS HT HV HU HB hu0 y1 y4 C1 C2
     obtain ⟨i, hi, hgk2, rfl, HS, HT, HV, HU, HB⟩ := hrel
     have C3 : f + b.length ≤ 16384 := HC1.out.2
     by_cases hib : i < b.length
     ·have hpl := putB_len d f b i HDU.out.2
      obtain ⟨gd, md, z1, ⟨uz, z2⟩, z3, z4, z5, z6, z7⟩ := byte2 HS.out HIN.out.1 HIN.out.2 (fun q hq => ⟨by have := zaO HT.out; omega, by have := zaO HV.out; omega, by have := zaO HU.out; omega⟩) (f + i) (by rw [hpl]; have := HDU.out.2; omega)
      rw [hpl] at z1
      clear hpl
      have HZ := zaa.mk (And.intro z4 (And.intro z5 z6))
      have HZ7 := zaa.mk z7
      clear z4 z5 z6 z7
      obtain ⟨ab, eb, hbx⟩ := Kd.at_int (Kd.C_below HRB.out HB.out) (i : Int) (by omega) (by omega)
      subst eb
      rw [Int.toNat_natCast] at hbx
      have I1 : decide ((i : Int) < (b.length : Int)) = true := decide_eq_true (by omega)
      have I2 : decide (i < b.length) = true := decide_eq_true hib
      have J2 : ((f : Int) + (i : Int) < (d.length : Int)) = True := eq_true (by have := HDU.out.2; omega)
      obtain ⟨JW, JT, JJ⟩ := sum_small C3 hib
      have J1 := eq_true JJ
      clear JJ
      go_upto_region 17 with fail
      refine start_ (n := 13) (S := fun w' => w'.cell? ⟨g, n.toNat * 6 + 1, none⟩ = some (.slice (some ⟨gd, 0, none⟩) d.length md) ∧ w'.cell? (ab.add i) = some (.int .u8 (rd b (i : Int)))) (ds := [12]) #[false, false, false, false, false, false, false, false, false, false, false, false, false] (by kernel_rfl) rfl rfl ⟨z1, hbx⟩ (fun hHeld => ?_)
      refine zbO (i := 0) (N := some 72) (v := ?_) (a' := ?_) #[true, false, false, false, false, false, false, false, false, false, false, false, false] rfl rfl (by kernel_rfl) (fun _ _ _ h => h) (Or.inl ⟨by rfl, ?_⟩) ?_ ?_
      rotate_left
      ·intro w'
       go_simp
       with_reducible rfl
      rotate_left
      ·simp only [Act.put, List.setIfInBounds_toArray, List.set_cons_zero, List.set_cons_succ, zbo, zbr]
       rfl
      refine zbO (i := 1) (N := some 73) (v := ?_) (a' := ?_) #[true, true, false, false, false, false, false, false, false, false, false, false, false] rfl rfl (by kernel_rfl) (fun _ _ _ h => h) (Or.inl ⟨by rfl, ?_⟩) ?_ ?_
      rotate_left
      ·intro w'
       go_simp
       with_reducible rfl
      rotate_left
      ·simp only [Act.put, List.setIfInBounds_toArray, List.set_cons_zero, List.set_cons_succ, zbo, zbr]
       rfl
      refine zbO (i := 2) (N := some 74) (v := ?_) (a' := ?_) #[true, true, true, false, false, false, false, false, false, false, false, false, false] rfl rfl (by kernel_rfl) (fun _ _ _ h => h) (Or.inl ⟨by rfl, ?_⟩) ?_ ?_
      rotate_left
      ·intro w'
       go_simp
       with_reducible rfl
      rotate_left
      ·simp only [Act.put, List.setIfInBounds_toArray, List.set_cons_zero, List.set_cons_succ, zbo, zbr]
       rfl
      refine zbO (i := 4) (N := some 76) (v := ?_) (a' := ?_) #[true, true, true, false, true, false, false, false, false, false, false, false, false] rfl rfl (by kernel_rfl) (fun _ _ _ h => h) (Or.inl ⟨by rfl, ?_⟩) ?_ ?_
      rotate_left
      ·intro w'
       go_simp
       with_reducible rfl
      rotate_left
      ·simp only [Act.put, List.setIfInBounds_toArray, List.set_cons_zero, List.set_cons_succ, zbo, zbr]
       rfl
      refine zbO (i := 5) (N := some 77) (v := ?_) (a' := ?_) #[true, true, true, false, true, true, false, false, false, false, false, false, false] rfl rfl (by kernel_rfl) (fun _ _ _ h => h) (Or.inl ⟨by rfl, ?_⟩) ?_ ?_
      rotate_left
      ·intro w'
       go_simp
       with_reducible rfl
      rotate_left
      ·simp only [Act.put, List.setIfInBounds_toArray, List.set_cons_zero, List.set_cons_succ, zbo, zbr]
       rfl
      refine zbO (i := 6) (N := some 78) (v := ?_) (a' := ?_) #[true, true, true, false, true, true, true, false, false, false, false, false, false] rfl rfl (by kernel_rfl) (fun _ _ _ h => h) (Or.inl ⟨by rfl, ?_⟩) ?_ ?_
      rotate_left
      ·intro w'
       go_simp
       with_reducible rfl
      rotate_left
      ·simp only [Act.put, List.setIfInBounds_toArray, List.set_cons_zero, List.set_cons_succ, zbo, zbr]
       rfl
      refine zbO (i := 7) (N := some 79) (v := ?_) (a' := ?_) #[true, true, true, false, true, true, true, true, false, false, false, false, false] rfl rfl (by kernel_rfl) (fun _ _ _ h => h) (Or.inl ⟨by rfl, ?_⟩) ?_ ?_
      rotate_left
      ·intro w'
       go_simp
       with_reducible rfl
      rotate_left
      ·simp only [Act.put, List.setIfInBounds_toArray, List.set_cons_zero, List.set_cons_succ, zbo, zbr]
       rfl
      refine zbO (i := 8) (N := some 80) (v := ?_) (a' := ?_) #[true, true, true, false, true, true, true, true, true, false, false, false, false] rfl rfl (by kernel_rfl) (fun _ _ _ h => h) (Or.inl ⟨by rfl, ?_⟩) ?_ ?_
      rotate_left
      ·intro w'
       go_simp
       with_reducible rfl
      rotate_left
      ·simp only [Act.put, List.setIfInBounds_toArray, List.set_cons_zero, List.set_cons_succ, zbo, zbr]
       rfl
      refine zbO (i := 9) (N := some 81) (v := ?_) (a' := ?_) #[true, true, true, false, true, true, true, true, true, true, false, false, false] rfl rfl (by kernel_rfl) (fun _ _ _ h => h) (Or.inl ⟨by rfl, ?_⟩) ?_ ?_
      rotate_left
      ·intro w'
       go_simp
       with_reducible rfl
      rotate_left
      ·simp only [Act.put, List.setIfInBounds_toArray, List.set_cons_zero, List.set_cons_succ, zbo, zbr]
       rfl
      refine take_ (i := 3) (N := some 75) (v := ?_) (a' := ?_) #[true, true, true, true, true, true, true, true, true, true, false, false, false] rfl rfl (by kernel_rfl) (fun _ _ _ h => h) (Or.inl ⟨by rfl, ?_⟩) hHeld ?_ ?_
      rotate_left
      ·rintro w' ⟨s0, s1⟩
       go_simp
       with_reducible rfl
      rotate_left
      ·simp only [Act.put, List.setIfInBounds_toArray, List.set_cons_zero, List.set_cons_succ, zbo, zbr]
       rfl
      refine take_ (i := 10) (N := some 82) (v := ?_) (a' := ?_) #[true, true, true, true, true, true, true, true, true, true, true, false, false] rfl rfl (by kernel_rfl) (fun _ _ _ h => h) (Or.inl ⟨by rfl, ?_⟩) hHeld ?_ ?_
      rotate_left
      ·rintro w' ⟨s0, s1⟩
       go_simp
       with_reducible rfl
      rotate_left
      ·simp only [Act.put, List.setIfInBounds_toArray, List.set_cons_zero, List.set_cons_succ, zbo, zbr]
       rfl
      refine zbO (i := 11) (N := some 83) (v := ?_) (a' := ?_) #[true, true, true, true, true, true, true, true, true, true, true, true, false] rfl rfl (by kernel_rfl) (fun _ _ _ h => h) (Or.inl ⟨by rfl, ?_⟩) ?_ ?_
      rotate_left
      ·intro w'
       go_simp
       with_reducible rfl
      rotate_left
      ·simp only [Act.put, List.setIfInBounds_toArray, List.set_cons_zero, List.set_cons_succ, zbo, zbr]
       rfl
      refine last_ (i := 12) (N := none) #[true, true, true, true, true, true, true, true, true, true, true, true, true] rfl rfl (by kernel_rfl) (by decide) (fun K hK => ?_)
      refine skip_ (w1 := ?_) (by rfl) rfl ?_ ?_
      rotate_left
      ·go_simp
       rfl
      refine hK.out _ _ ?_
      clear hK K
      refine done_ (by kernel_rfl) ?_
      go_wp2
      clear JW JT J1 J2
      go_roundg (b.length - (i + 1))
      case measure => omega
      case rel => exact ⟨i + 1, hib, rfl, congrArg (Value.int .i64) (wrap_one hib HC1.out.1), ⟨by rw [← putB_step d f b i hib HDU.out.2]; exact Kd.S_step (HZ7.out (b.getD i 0)) (fun _ _ _ => rfl)⟩, ⟨(by repeat (first | exact zaD HT.out (p := ⟨gd, f + i, none⟩) (fun e => HZ.out.2.2.1 e.symm) _ | apply zaj | apply zak))⟩, ⟨(by repeat (first | exact zaD HV.out (p := ⟨gd, f + i, none⟩) (fun e => HZ.out.2.2.2.1 e.symm) _ | apply zaj | apply zak))⟩, ⟨(by repeat (first | exact zaD HU.out (p := ⟨gd, f + i, none⟩) (fun e => HZ.out.2.2.2.2 e.symm) _ | apply zaj | apply zak))⟩, ⟨by repeat (first | exact HB.out.setCell (p := ⟨gd, f + i, none⟩) HZ.out.1 _ | apply zab | apply zae | apply zaB)⟩⟩
     ·obtain rfl : i = b.length := by omega
      have I1 : decide ((b.length : Int) < (b.length : Int)) = false := decide_eq_false (by omega)
      obtain ⟨⟨ut, t1⟩, t2, t3, t4, t5, t6⟩ := time2 HS.out HIN.out.1 HIN.out.2
      have HT6 := zaa.mk t6
      clear t3 t4 t5 t6
      have HU1 := zaa.mk (zaD HU.out (p := ⟨g, n.toNat * 6 + 5, none⟩) (fun e => HG.out.2.2.2.2 e.symm) (.int .i64 now))
      have HV1 := zaa.mk (zaD HV.out (p := ⟨g, n.toNat * 6 + 5, none⟩) (fun e => HG.out.2.2.2.1 e.symm) (.int .i64 now))
      have hu1 := za8 HU1.out
      have hv1 := za8 HV1.out
      have hvf1 := zaf HV1.out 0
      go_wp2_with fail
      refine bodyPost_ret (zbl rfl _ _ (w.heap.size + 1) 24 #[.slice (some ⟨g, 0, none⟩) l.length cu] (0, 0) _ rfl (zaP HV1.out 0 _ rfl) Tryz.underlying24 rfl (by kernel_rfl)) rfl ?_
      have hs := Kd.S_set (HT6.out now) HV1.out (by decide) 0 (.slice (some ⟨g, 0, none⟩) l.length cu)
      have hrr := HRR.out
      rw [Int.toNat_natCast, ← HDU.out.1] at hrr
      rw [← hrr] at hs
      have hlr : r.length = l.length := by rw [hrr, List.length_set]
      rw [← hlr] at hs ⊢
      exact ⟨_, _, rfl, Kd.zbt hs (fun _ _ => trivial), (HB.out.setCell (p := ⟨g, n.toNat * 6 + 5, none⟩) HG.out.1 _).setCell (p := ⟨w.heap.size + 1, 0, none⟩) (by show _ ≤ _ + 1; omega) _⟩
 ·rw [if_neg z] at hE; exact absurd hE z
end Go.Proofs.YtjghephnjkffcaaGreat.PAll
