/- Parts of one proof, merged by a program of this repo: walks over the given program and plain facts. -/
import Derived.Test.YtjghephnjkffcaaGreatMTreeMakes11
import Derived.Test.YtjghephnjkffcaaGreatMTreeMakes4
import Derived.Test.YtjghephnjkffcaaGreatMTreeMakes5
import Derived.Test.YtjghephnjkffcaaGreatMTreeMakes9
import Derived.Test.YtjghephnjkffcaaGreatMTreeMakes10
import Derived.Test.YtjghephnjkffcaaGreatMTreeMakes2
namespace Go.Proofs.YtjghephnjkffcaaGreat.PAll
open Go.RowKit Go.Proofs.YtjghephnjkffcaaGreatW.PrintWords Go.Proofs.YtjghephnjkffcaaGreatW.PrintLast Go.Proofs.YtjghephnjkffcaaGreatW.PrintMore
attribute [local go_sem] zbY zbW zcm zcl zbG zbF zbX zbV
set_option linter.unusedVariables false
set_option linter.unusedSimpArgs false
theorem zat {W : World} {g : Nat} {a : Value} {t : TypeId} (h : W.heap[g]? = some (.cells #[a] t (0, 0))) : W.cell? ⟨g, 0, none⟩ = some a := (zad h 0).trans rfl
theorem zbj {w w' : World} (h : zaP w w') : Below w.heap.size w w' := by
 obtain ⟨nd, rfl⟩ := h
 exact zab (Below.refl _ _) nd
def leadE (k : Nat) (kind : Int) (target : ByteArray) : Option Int :=
 if kind = 3 then (if target.toList = ([] : List UInt8) then some 28 else (zaE.f k target).bind fun z => if z = true then some 28 else if (target.size : Int) > 512 then some 37 else some 0) else some 0
def kindB (kind : Int) (target : ByteArray) : Bool := decide (kind < 1) || (decide (kind > 3) || (kind != 3 && target.toList != ([] : List UInt8)))
def zcp (k : Nat) (l : List S40) (d : Int) (s : ByteArray) (kind : Int) (target : ByteArray) : Option Int :=
 (zaG.f l d).bind fun b => if b = true then (zas.f k s).bind fun e1 => (if e1 = 0 then (leadE k kind target).bind fun e2 => (if e2 = 0 then za5.f k l d s else some e2) else some e1) else some 54
structure PlaceG (l : List S40) (n : Nat) : Prop where
 le : n ≤ l.length
 lt : l.length ≤ 64
 no : ∀ j : Nat, j < n → (zaj l (j : Int)).f0 ≠ 0
 yes : n < l.length → (zaj l (n : Int)).f0 = 0
def newN (l : List S40) (n : Nat) (kind : Int) (target : ByteArray) (now : Int) : List S40 :=
 if n = l.length then l ++ [⟨kind, [], [], target, 0, now⟩] else l.set n ⟨kind, [], [], target, 0, now⟩
set_option maxHeartbeats 8000000 in
set_option maxRecDepth 100000 in
theorem zbg.form (k : Nat) (A0 : Option Addr) (c0 : Nat) (l : List S40) (d : Int) (s : ByteArray) (kind : Int) (target : ByteArray) (now : Int) (w : World) (hr0 : Kd.C k40 w A0 l.length l) (hc0 : l.length ≤ c0) (hk : kindB kind target = true) :
  Calls Tryz.prog 53 #[.agg #[.slice A0 l.length c0], .int .i64 d, .string s, .int .i64 kind, .string target, .int .i64 now] w fun e' w' => e' = .returned (.tuple #[.agg #[.slice A0 l.length c0], .int .i64 0, .int .i64 100]) ∧ Below w.heap.size w w' := by
 have HR0 := zaa.mk hr0
 have HC0 := zaa.mk hc0
 have hut := Tryz.underlying24
 have hun := Tryz.underlying40
 have hum := Tryz.underlying50
 have HB := zaa.mk (zac (zac (Below.refl w.heap.size w) (.cells #[.slice A0 l.length c0] 24)) (.cells #[.slice none 0 0] 24))
 have HT := zaa.mk (zah (za8 w (.cells #[.slice A0 l.length c0] 24)) (.cells #[.slice none 0 0] 24))
 have HV := zaa.mk (za8 (w.alloc (.cells #[.slice A0 l.length c0] 24)) (.cells #[.slice none 0 0] 24))
 rw [World.size_alloc] at HV
 clear hr0 hc0
 unfold kindB at hk
 by_cases h1 : kind < 1
 ·have K1 : decide (kind < 1) = true := decide_eq_true h1
  clear h1 hk
  have ht0 := zat HT.out
  have htf := zae HT.out 0
  have hv0 := zat HV.out
  have hvf := zae HV.out 0
  go_enter Tryz.func53, Tryz.ntmps53
  go_wp2_with fail
  refine bodyPost_ret (zbd rfl _ _ (w.heap.size + 1) 24 #[.slice A0 l.length c0] (0, 0) _ rfl (by have h := za8 (w.alloc (.cells #[.slice A0 l.length c0] 24)) (.cells #[.slice A0 l.length c0] 24); rw [World.size_alloc] at h; exact h) Tryz.underlying24 rfl (by kernel_rfl)) rfl ?_
  exact ⟨rfl, zac (zac (Below.refl w.heap.size w) _) _⟩
 ·have K1 : decide (kind < 1) = false := decide_eq_false h1
  by_cases h2 : kind > 3
  ·have K2 : decide (kind > 3) = true := decide_eq_true h2
   clear h1 h2 hk
   have ht0 := zat HT.out
   have htf := zae HT.out 0
   have hv0 := zat HV.out
   have hvf := zae HV.out 0
   go_enter Tryz.func53, Tryz.ntmps53
   go_wp2_with fail
   refine bodyPost_ret (zbd rfl _ _ (w.heap.size + 1) 24 #[.slice A0 l.length c0] (0, 0) _ rfl (by have h := za8 (w.alloc (.cells #[.slice A0 l.length c0] 24)) (.cells #[.slice A0 l.length c0] 24); rw [World.size_alloc] at h; exact h) Tryz.underlying24 rfl (by kernel_rfl)) rfl ?_
   exact ⟨rfl, zac (zac (Below.refl w.heap.size w) _) _⟩
  ·have K2 : decide (kind > 3) = false := decide_eq_false h2
   rw [K1, K2, Bool.false_or, Bool.false_or, Bool.and_eq_true] at hk
   have K3 := hk.1
   have K4 : target.toList.isEmpty = false := by have q := hk.2; rw [Bool.eq_false_iff]; intro q2; rw [List.isEmpty_iff.1 q2] at q; exact absurd q (by decide)
   clear h1 h2 hk
   have ht0 := zat HT.out
   have htf := zae HT.out 0
   have hv0 := zat HV.out
   have hvf := zae HV.out 0
   go_enter Tryz.func53, Tryz.ntmps53
   go_wp2_with fail
   refine bodyPost_ret (zbd rfl _ _ (w.heap.size + 1) 24 #[.slice A0 l.length c0] (0, 0) _ rfl (by have h := za8 (w.alloc (.cells #[.slice A0 l.length c0] 24)) (.cells #[.slice A0 l.length c0] 24); rw [World.size_alloc] at h; exact h) Tryz.underlying24 rfl (by kernel_rfl)) rfl ?_
   exact ⟨rfl, zac (zac (Below.refl w.heap.size w) _) _⟩
set_option maxHeartbeats 8000000 in
set_option maxRecDepth 100000 in
theorem zbg.no (k : Nat) (A0 : Option Addr) (c0 : Nat) (l : List S40) (d : Int) (s : ByteArray) (kind : Int) (target : ByteArray) (now : Int) (w : World) (hr0 : Kd.C k40 w A0 l.length l) (hc0 : l.length ≤ c0) (h1 : 1 ≤ kind) (h3 : kind ≤ 3) (ht3 : kind ≠ 3 → target.toList = ([] : List UInt8)) (e : Int) (hE : zcp k l d s kind target = some e) (hz : e ≠ 0) :
  Calls Tryz.prog 53 #[.agg #[.slice A0 l.length c0], .int .i64 d, .string s, .int .i64 kind, .string target, .int .i64 now] w fun e' w' => e' = .returned (.tuple #[.agg #[.slice A0 l.length c0], .int .i64 0, .int .i64 e]) ∧ Below w.heap.size w w' := by
 have HR0 := zaa.mk hr0
 have HC0 := zaa.mk hc0
 have hut := Tryz.underlying24
 have hun := Tryz.underlying40
 have hum := Tryz.underlying50
 have HB := zaa.mk (zac (zac (Below.refl w.heap.size w) (.cells #[.slice A0 l.length c0] 24)) (.cells #[.slice none 0 0] 24))
 have HT := zaa.mk (zah (za8 w (.cells #[.slice A0 l.length c0] 24)) (.cells #[.slice none 0 0] 24))
 have HV := zaa.mk (za8 (w.alloc (.cells #[.slice A0 l.length c0] 24)) (.cells #[.slice none 0 0] 24))
 rw [World.size_alloc] at HV
 clear hr0 hc0
 unfold zcp at hE
 obtain ⟨b, hb, hE⟩ := Option.bind_eq_some_iff.mp hE
 have HD := zaa.mk hb
 clear hb
 have K1 : decide (kind < 1) = false := decide_eq_false (by omega)
 have K2 : decide (kind > 3) = false := decide_eq_false (by omega)
 cases b with
 | false =>
  rw [if_neg (by decide)] at hE
  obtain rfl := Option.some.inj hE
  clear hE
  by_cases hk3 : kind = 3
  ·have K3 : (kind == 3) = true := by simpa using hk3
   have K4 : (kind != 3) = false := by simpa using hk3
   have ht0 := zat HT.out
   have htf := zae HT.out 0
   have hv0 := zat HV.out
   have hvf := zae HV.out 0
   go_enter Tryz.func53, Tryz.ntmps53
   go_wp2_with (first | fail)
   refine (zaG.calls A0 c0 l d false _ (Kd.C_below HR0.out HB.out) HC0.out HD.out).mono ?_
   rintro e' w1 ⟨rfl, hb⟩
   clear ht0 htf hv0 hvf
   replace HT := zaa.mk (zan (by repeat (first | exact HT.out | apply zai | apply zah | apply zak)) hb)
   replace HV := zaa.mk (zan (by repeat (first | exact HV.out | apply zai | apply zah | apply zak)) hb)
   replace HB := zaa.mk (zam (by repeat (first | exact HB.out | apply zac | apply zab | apply zaf | apply zay)) hb)
   clear hb
   have ht0 := zat HT.out
   have htf := zae HT.out 0
   have hv0 := zat HV.out
   have hvf := zae HV.out 0
   go_wp2_with fail
   refine bodyPost_ret (zbd rfl _ _ (w.heap.size + 1) 24 #[.slice A0 l.length c0] (0, 0) _ rfl (zaJ HV.out 0 _ rfl) Tryz.underlying24 rfl (by kernel_rfl)) rfl ?_
   have hbz := HB.out.setCell (p := ⟨w.heap.size + 1, 0, none⟩) (by show _ ≤ _ + 1; omega) (.slice A0 l.length c0)
   exact ⟨rfl, hbz⟩
  ·have K3 : (kind == 3) = false := by simpa using hk3
   have K4 : (kind != 3) = true := by simpa using hk3
   have K5 : target.toList.isEmpty = true := by rw [ht3 hk3]; rfl
   have ht0 := zat HT.out
   have htf := zae HT.out 0
   have hv0 := zat HV.out
   have hvf := zae HV.out 0
   go_enter Tryz.func53, Tryz.ntmps53
   go_wp2_with (first | fail)
   refine (zaG.calls A0 c0 l d false _ (Kd.C_below HR0.out HB.out) HC0.out HD.out).mono ?_
   rintro e' w1 ⟨rfl, hb⟩
   clear ht0 htf hv0 hvf
   replace HT := zaa.mk (zan (by repeat (first | exact HT.out | apply zai | apply zah | apply zak)) hb)
   replace HV := zaa.mk (zan (by repeat (first | exact HV.out | apply zai | apply zah | apply zak)) hb)
   replace HB := zaa.mk (zam (by repeat (first | exact HB.out | apply zac | apply zab | apply zaf | apply zay)) hb)
   clear hb
   have ht0 := zat HT.out
   have htf := zae HT.out 0
   have hv0 := zat HV.out
   have hvf := zae HV.out 0
   go_wp2_with fail
   refine bodyPost_ret (zbd rfl _ _ (w.heap.size + 1) 24 #[.slice A0 l.length c0] (0, 0) _ rfl (zaJ HV.out 0 _ rfl) Tryz.underlying24 rfl (by kernel_rfl)) rfl ?_
   have hbz := HB.out.setCell (p := ⟨w.heap.size + 1, 0, none⟩) (by show _ ≤ _ + 1; omega) (.slice A0 l.length c0)
   exact ⟨rfl, hbz⟩
 | true =>
  rw [if_pos rfl] at hE
  obtain ⟨e1, hn, hE⟩ := Option.bind_eq_some_iff.mp hE
  have HNM := zaa.mk hn
  clear hn
  by_cases z : e1 = 0
  ·rw [if_pos z] at hE
   subst z
   obtain ⟨e2, hl, hE⟩ := Option.bind_eq_some_iff.mp hE
   unfold leadE at hl
   by_cases hk3 : kind = 3
   ·have K3 : (kind == 3) = true := by simpa using hk3
    have K4 : (kind != 3) = false := by simpa using hk3
    rw [if_pos hk3] at hl
    by_cases ht0 : target.toList = ([] : List UInt8)
    ·rw [if_pos ht0] at hl
     obtain rfl := Option.some.inj hl
     rw [if_neg (by decide)] at hE
     obtain rfl := Option.some.inj hE
     clear hl hE
     have T0 : target.toList.isEmpty = true := by rw [ht0]; rfl
     have ht0 := zat HT.out
     have htf := zae HT.out 0
     have hv0 := zat HV.out
     have hvf := zae HV.out 0
     go_enter Tryz.func53, Tryz.ntmps53
     go_wp2_with (first | fail)
     refine (zaG.calls A0 c0 l d true _ (Kd.C_below HR0.out HB.out) HC0.out HD.out).mono ?_
     rintro e' w1 ⟨rfl, hb⟩
     clear ht0 htf hv0 hvf
     replace HT := zaa.mk (zan (by repeat (first | exact HT.out | apply zai | apply zah | apply zak)) hb)
     replace HV := zaa.mk (zan (by repeat (first | exact HV.out | apply zai | apply zah | apply zak)) hb)
     replace HB := zaa.mk (zam (by repeat (first | exact HB.out | apply zac | apply zab | apply zaf | apply zay)) hb)
     clear hb
     have ht0 := zat HT.out
     have htf := zae HT.out 0
     have hv0 := zat HV.out
     have hvf := zae HV.out 0
     go_wp2_with fail
     refine (zas.calls k s 0 _ HNM.out).mono ?_
     rintro e' w2 ⟨rfl, hd⟩
     have hb := zbj hd
     clear hd
     clear ht0 htf hv0 hvf
     replace HT := zaa.mk (zan (by repeat (first | exact HT.out | apply zai | apply zah | apply zak)) hb)
     replace HV := zaa.mk (zan (by repeat (first | exact HV.out | apply zai | apply zah | apply zak)) hb)
     replace HB := zaa.mk (zam (by repeat (first | exact HB.out | apply zac | apply zab | apply zaf | apply zay)) hb)
     clear hb
     have ht0 := zat HT.out
     have htf := zae HT.out 0
     have hv0 := zat HV.out
     have hvf := zae HV.out 0
     go_wp2_with fail
     refine bodyPost_ret (zbd rfl _ _ (w.heap.size + 1) 24 #[.slice A0 l.length c0] (0, 0) _ rfl (zaJ HV.out 0 _ rfl) Tryz.underlying24 rfl (by kernel_rfl)) rfl ?_
     have hbz := HB.out.setCell (p := ⟨w.heap.size + 1, 0, none⟩) (by show _ ≤ _ + 1; omega) (.slice A0 l.length c0)
     exact ⟨rfl, hbz⟩
    ·rw [if_neg ht0] at hl
     have T0 : target.toList.isEmpty = false := by rw [Bool.eq_false_iff]; exact fun q => ht0 (List.isEmpty_iff.1 q)
     obtain ⟨b, hzr, hl⟩ := Option.bind_eq_some_iff.mp hl
     have HZR := zaa.mk hzr
     clear hzr
     cases b with
     | true =>
      rw [if_pos rfl] at hl
      obtain rfl := Option.some.inj hl
      rw [if_neg (by decide)] at hE
      obtain rfl := Option.some.inj hE
      clear hl hE
      have ht0 := zat HT.out
      have htf := zae HT.out 0
      have hv0 := zat HV.out
      have hvf := zae HV.out 0
      go_enter Tryz.func53, Tryz.ntmps53
      go_wp2_with (first | fail)
      refine (zaG.calls A0 c0 l d true _ (Kd.C_below HR0.out HB.out) HC0.out HD.out).mono ?_
      rintro e' w1 ⟨rfl, hb⟩
      clear ht0 htf hv0 hvf
      replace HT := zaa.mk (zan (by repeat (first | exact HT.out | apply zai | apply zah | apply zak)) hb)
      replace HV := zaa.mk (zan (by repeat (first | exact HV.out | apply zai | apply zah | apply zak)) hb)
      replace HB := zaa.mk (zam (by repeat (first | exact HB.out | apply zac | apply zab | apply zaf | apply zay)) hb)
      clear hb
      have ht0 := zat HT.out
      have htf := zae HT.out 0
      have hv0 := zat HV.out
      have hvf := zae HV.out 0
      go_wp2_with fail
      refine (zas.calls k s 0 _ HNM.out).mono ?_
      rintro e' w2 ⟨rfl, hd⟩
      have hb := zbj hd
      clear hd
      clear ht0 htf hv0 hvf
      replace HT := zaa.mk (zan (by repeat (first | exact HT.out | apply zai | apply zah | apply zak)) hb)
      replace HV := zaa.mk (zan (by repeat (first | exact HV.out | apply zai | apply zah | apply zak)) hb)
      replace HB := zaa.mk (zam (by repeat (first | exact HB.out | apply zac | apply zab | apply zaf | apply zay)) hb)
      clear hb
      have ht0 := zat HT.out
      have htf := zae HT.out 0
      have hv0 := zat HV.out
      have hvf := zae HV.out 0
      go_wp2_with fail
      refine (zaE.calls k target true _ HZR.out).mono ?_
      rintro e' w3 ⟨rfl, hd⟩
      have hb := zbj hd
      clear hd
      clear ht0 htf hv0 hvf
      replace HT := zaa.mk (zan (by repeat (first | exact HT.out | apply zai | apply zah | apply zak)) hb)
      replace HV := zaa.mk (zan (by repeat (first | exact HV.out | apply zai | apply zah | apply zak)) hb)
      replace HB := zaa.mk (zam (by repeat (first | exact HB.out | apply zac | apply zab | apply zaf | apply zay)) hb)
      clear hb
      have ht0 := zat HT.out
      have htf := zae HT.out 0
      have hv0 := zat HV.out
      have hvf := zae HV.out 0
      go_wp2_with fail
      refine bodyPost_ret (zbd rfl _ _ (w.heap.size + 1) 24 #[.slice A0 l.length c0] (0, 0) _ rfl (zaJ HV.out 0 _ rfl) Tryz.underlying24 rfl (by kernel_rfl)) rfl ?_
      have hbz := HB.out.setCell (p := ⟨w.heap.size + 1, 0, none⟩) (by show _ ≤ _ + 1; omega) (.slice A0 l.length c0)
      exact ⟨rfl, hbz⟩
     | false =>
      rw [if_neg (by decide)] at hl
      by_cases h5 : (target.size : Int) > 512
      ·rw [if_pos h5] at hl
       obtain rfl := Option.some.inj hl
       rw [if_neg (by decide)] at hE
       obtain rfl := Option.some.inj hE
       clear hl hE
       have T5 : decide ((target.size : Int) > 512) = true := decide_eq_true h5
       have T6 : decide (target.size > 512) = true := decide_eq_true (by omega)
       have ht0 := zat HT.out
       have htf := zae HT.out 0
       have hv0 := zat HV.out
       have hvf := zae HV.out 0
       go_enter Tryz.func53, Tryz.ntmps53
       go_wp2_with (first | fail)
       refine (zaG.calls A0 c0 l d true _ (Kd.C_below HR0.out HB.out) HC0.out HD.out).mono ?_
       rintro e' w1 ⟨rfl, hb⟩
       clear ht0 htf hv0 hvf
       replace HT := zaa.mk (zan (by repeat (first | exact HT.out | apply zai | apply zah | apply zak)) hb)
       replace HV := zaa.mk (zan (by repeat (first | exact HV.out | apply zai | apply zah | apply zak)) hb)
       replace HB := zaa.mk (zam (by repeat (first | exact HB.out | apply zac | apply zab | apply zaf | apply zay)) hb)
       clear hb
       have ht0 := zat HT.out
       have htf := zae HT.out 0
       have hv0 := zat HV.out
       have hvf := zae HV.out 0
       go_wp2_with fail
       refine (zas.calls k s 0 _ HNM.out).mono ?_
       rintro e' w2 ⟨rfl, hd⟩
       have hb := zbj hd
       clear hd
       clear ht0 htf hv0 hvf
       replace HT := zaa.mk (zan (by repeat (first | exact HT.out | apply zai | apply zah | apply zak)) hb)
       replace HV := zaa.mk (zan (by repeat (first | exact HV.out | apply zai | apply zah | apply zak)) hb)
       replace HB := zaa.mk (zam (by repeat (first | exact HB.out | apply zac | apply zab | apply zaf | apply zay)) hb)
       clear hb
       have ht0 := zat HT.out
       have htf := zae HT.out 0
       have hv0 := zat HV.out
       have hvf := zae HV.out 0
       go_wp2_with fail
       refine (zaE.calls k target false _ HZR.out).mono ?_
       rintro e' w3 ⟨rfl, hd⟩
       have hb := zbj hd
       clear hd
       clear ht0 htf hv0 hvf
       replace HT := zaa.mk (zan (by repeat (first | exact HT.out | apply zai | apply zah | apply zak)) hb)
       replace HV := zaa.mk (zan (by repeat (first | exact HV.out | apply zai | apply zah | apply zak)) hb)
       replace HB := zaa.mk (zam (by repeat (first | exact HB.out | apply zac | apply zab | apply zaf | apply zay)) hb)
       clear hb
       have ht0 := zat HT.out
       have htf := zae HT.out 0
       have hv0 := zat HV.out
       have hvf := zae HV.out 0
       go_wp2_with fail
       refine bodyPost_ret (zbd rfl _ _ (w.heap.size + 1) 24 #[.slice A0 l.length c0] (0, 0) _ rfl (zaJ HV.out 0 _ rfl) Tryz.underlying24 rfl (by kernel_rfl)) rfl ?_
       have hbz := HB.out.setCell (p := ⟨w.heap.size + 1, 0, none⟩) (by show _ ≤ _ + 1; omega) (.slice A0 l.length c0)
       exact ⟨rfl, hbz⟩
      ·rw [if_neg h5] at hl
       obtain rfl := Option.some.inj hl
       rw [if_pos rfl] at hE
       have HEN := zaa.mk hE
       clear hl hE
       have T5 : decide ((target.size : Int) > 512) = false := decide_eq_false h5
       have T6 : decide (target.size > 512) = false := decide_eq_false (by omega)
       have Z2 : (e != 0) = true := by simpa using hz
       have ht0 := zat HT.out
       have htf := zae HT.out 0
       have hv0 := zat HV.out
       have hvf := zae HV.out 0
       go_enter Tryz.func53, Tryz.ntmps53
       go_wp2_with (first | fail)
       refine (zaG.calls A0 c0 l d true _ (Kd.C_below HR0.out HB.out) HC0.out HD.out).mono ?_
       rintro e' w1 ⟨rfl, hb⟩
       clear ht0 htf hv0 hvf
       replace HT := zaa.mk (zan (by repeat (first | exact HT.out | apply zai | apply zah | apply zak)) hb)
       replace HV := zaa.mk (zan (by repeat (first | exact HV.out | apply zai | apply zah | apply zak)) hb)
       replace HB := zaa.mk (zam (by repeat (first | exact HB.out | apply zac | apply zab | apply zaf | apply zay)) hb)
       clear hb
       have ht0 := zat HT.out
       have htf := zae HT.out 0
       have hv0 := zat HV.out
       have hvf := zae HV.out 0
       go_wp2_with fail
       refine (zas.calls k s 0 _ HNM.out).mono ?_
       rintro e' w2 ⟨rfl, hd⟩
       have hb := zbj hd
       clear hd
       clear ht0 htf hv0 hvf
       replace HT := zaa.mk (zan (by repeat (first | exact HT.out | apply zai | apply zah | apply zak)) hb)
       replace HV := zaa.mk (zan (by repeat (first | exact HV.out | apply zai | apply zah | apply zak)) hb)
       replace HB := zaa.mk (zam (by repeat (first | exact HB.out | apply zac | apply zab | apply zaf | apply zay)) hb)
       clear hb
       have ht0 := zat HT.out
       have htf := zae HT.out 0
       have hv0 := zat HV.out
       have hvf := zae HV.out 0
       go_wp2_with fail
       refine (zaE.calls k target false _ HZR.out).mono ?_
       rintro e' w3 ⟨rfl, hd⟩
       have hb := zbj hd
       clear hd
       clear ht0 htf hv0 hvf
       replace HT := zaa.mk (zan (by repeat (first | exact HT.out | apply zai | apply zah | apply zak)) hb)
       replace HV := zaa.mk (zan (by repeat (first | exact HV.out | apply zai | apply zah | apply zak)) hb)
       replace HB := zaa.mk (zam (by repeat (first | exact HB.out | apply zac | apply zab | apply zaf | apply zay)) hb)
       clear hb
       have ht0 := zat HT.out
       have htf := zae HT.out 0
       have hv0 := zat HV.out
       have hvf := zae HV.out 0
       go_wp2_with (first | fail)
       refine (za5.calls k A0 c0 l d s e _ (Kd.C_below HR0.out HB.out) HC0.out HEN.out).mono ?_
       rintro e' w4 ⟨rfl, hb⟩
       clear ht0 htf hv0 hvf
       replace HT := zaa.mk (zan (by repeat (first | exact HT.out | apply zai | apply zah | apply zak)) hb)
       replace HV := zaa.mk (zan (by repeat (first | exact HV.out | apply zai | apply zah | apply zak)) hb)
       replace HB := zaa.mk (zam (by repeat (first | exact HB.out | apply zac | apply zab | apply zaf | apply zay)) hb)
       clear hb
       have ht0 := zat HT.out
       have htf := zae HT.out 0
       have hv0 := zat HV.out
       have hvf := zae HV.out 0
       go_wp2_with fail
       refine bodyPost_ret (zbd rfl _ _ (w.heap.size + 1) 24 #[.slice A0 l.length c0] (0, 0) _ rfl (zaJ HV.out 0 _ rfl) Tryz.underlying24 rfl (by kernel_rfl)) rfl ?_
       have hbz := HB.out.setCell (p := ⟨w.heap.size + 1, 0, none⟩) (by show _ ≤ _ + 1; omega) (.slice A0 l.length c0)
       exact ⟨rfl, hbz⟩
   ·have K3 : (kind == 3) = false := by simpa using hk3
    have K4 : (kind != 3) = true := by simpa using hk3
    have K5 : target.toList.isEmpty = true := by rw [ht3 hk3]; rfl
    rw [if_neg hk3] at hl
    obtain rfl := Option.some.inj hl
    rw [if_pos rfl] at hE
    have HEN := zaa.mk hE
    clear hl hE
    have Z2 : (e != 0) = true := by simpa using hz
    have ht0 := zat HT.out
    have htf := zae HT.out 0
    have hv0 := zat HV.out
    have hvf := zae HV.out 0
    go_enter Tryz.func53, Tryz.ntmps53
    go_wp2_with (first | fail)
    refine (zaG.calls A0 c0 l d true _ (Kd.C_below HR0.out HB.out) HC0.out HD.out).mono ?_
    rintro e' w1 ⟨rfl, hb⟩
    clear ht0 htf hv0 hvf
    replace HT := zaa.mk (zan (by repeat (first | exact HT.out | apply zai | apply zah | apply zak)) hb)
    replace HV := zaa.mk (zan (by repeat (first | exact HV.out | apply zai | apply zah | apply zak)) hb)
    replace HB := zaa.mk (zam (by repeat (first | exact HB.out | apply zac | apply zab | apply zaf | apply zay)) hb)
    clear hb
    have ht0 := zat HT.out
    have htf := zae HT.out 0
    have hv0 := zat HV.out
    have hvf := zae HV.out 0
    go_wp2_with fail
    refine (zas.calls k s 0 _ HNM.out).mono ?_
    rintro e' w2 ⟨rfl, hd⟩
    have hb := zbj hd
    clear hd
    clear ht0 htf hv0 hvf
    replace HT := zaa.mk (zan (by repeat (first | exact HT.out | apply zai | apply zah | apply zak)) hb)
    replace HV := zaa.mk (zan (by repeat (first | exact HV.out | apply zai | apply zah | apply zak)) hb)
    replace HB := zaa.mk (zam (by repeat (first | exact HB.out | apply zac | apply zab | apply zaf | apply zay)) hb)
    clear hb
    have ht0 := zat HT.out
    have htf := zae HT.out 0
    have hv0 := zat HV.out
    have hvf := zae HV.out 0
    go_wp2_with (first | fail)
    refine (za5.calls k A0 c0 l d s e _ (Kd.C_below HR0.out HB.out) HC0.out HEN.out).mono ?_
    rintro e' w4 ⟨rfl, hb⟩
    clear ht0 htf hv0 hvf
    replace HT := zaa.mk (zan (by repeat (first | exact HT.out | apply zai | apply zah | apply zak)) hb)
    replace HV := zaa.mk (zan (by repeat (first | exact HV.out | apply zai | apply zah | apply zak)) hb)
    replace HB := zaa.mk (zam (by repeat (first | exact HB.out | apply zac | apply zab | apply zaf | apply zay)) hb)
    clear hb
    have ht0 := zat HT.out
    have htf := zae HT.out 0
    have hv0 := zat HV.out
    have hvf := zae HV.out 0
    go_wp2_with fail
    refine bodyPost_ret (zbd rfl _ _ (w.heap.size + 1) 24 #[.slice A0 l.length c0] (0, 0) _ rfl (zaJ HV.out 0 _ rfl) Tryz.underlying24 rfl (by kernel_rfl)) rfl ?_
    have hbz := HB.out.setCell (p := ⟨w.heap.size + 1, 0, none⟩) (by show _ ≤ _ + 1; omega) (.slice A0 l.length c0)
    exact ⟨rfl, hbz⟩
  ·rw [if_neg z] at hE
   obtain rfl := Option.some.inj hE
   clear hE
   have Z2 : (e1 != 0) = true := by simpa using z
   by_cases hk3 : kind = 3
   ·have K3 : (kind == 3) = true := by simpa using hk3
    have K4 : (kind != 3) = false := by simpa using hk3
    have ht0 := zat HT.out
    have htf := zae HT.out 0
    have hv0 := zat HV.out
    have hvf := zae HV.out 0
    go_enter Tryz.func53, Tryz.ntmps53
    go_wp2_with (first | fail)
    refine (zaG.calls A0 c0 l d true _ (Kd.C_below HR0.out HB.out) HC0.out HD.out).mono ?_
    rintro e' w1 ⟨rfl, hb⟩
    clear ht0 htf hv0 hvf
    replace HT := zaa.mk (zan (by repeat (first | exact HT.out | apply zai | apply zah | apply zak)) hb)
    replace HV := zaa.mk (zan (by repeat (first | exact HV.out | apply zai | apply zah | apply zak)) hb)
    replace HB := zaa.mk (zam (by repeat (first | exact HB.out | apply zac | apply zab | apply zaf | apply zay)) hb)
    clear hb
    have ht0 := zat HT.out
    have htf := zae HT.out 0
    have hv0 := zat HV.out
    have hvf := zae HV.out 0
    go_wp2_with fail
    refine (zas.calls k s e1 _ HNM.out).mono ?_
    rintro e' w2 ⟨rfl, hd⟩
    have hb := zbj hd
    clear hd
    clear ht0 htf hv0 hvf
    replace HT := zaa.mk (zan (by repeat (first | exact HT.out | apply zai | apply zah | apply zak)) hb)
    replace HV := zaa.mk (zan (by repeat (first | exact HV.out | apply zai | apply zah | apply zak)) hb)
    replace HB := zaa.mk (zam (by repeat (first | exact HB.out | apply zac | apply zab | apply zaf | apply zay)) hb)
    clear hb
    have ht0 := zat HT.out
    have htf := zae HT.out 0
    have hv0 := zat HV.out
    have hvf := zae HV.out 0
    go_wp2_with fail
    refine bodyPost_ret (zbd rfl _ _ (w.heap.size + 1) 24 #[.slice A0 l.length c0] (0, 0) _ rfl (zaJ HV.out 0 _ rfl) Tryz.underlying24 rfl (by kernel_rfl)) rfl ?_
    have hbz := HB.out.setCell (p := ⟨w.heap.size + 1, 0, none⟩) (by show _ ≤ _ + 1; omega) (.slice A0 l.length c0)
    exact ⟨rfl, hbz⟩
   ·have K3 : (kind == 3) = false := by simpa using hk3
    have K4 : (kind != 3) = true := by simpa using hk3
    have K5 : target.toList.isEmpty = true := by rw [ht3 hk3]; rfl
    have ht0 := zat HT.out
    have htf := zae HT.out 0
    have hv0 := zat HV.out
    have hvf := zae HV.out 0
    go_enter Tryz.func53, Tryz.ntmps53
    go_wp2_with (first | fail)
    refine (zaG.calls A0 c0 l d true _ (Kd.C_below HR0.out HB.out) HC0.out HD.out).mono ?_
    rintro e' w1 ⟨rfl, hb⟩
    clear ht0 htf hv0 hvf
    replace HT := zaa.mk (zan (by repeat (first | exact HT.out | apply zai | apply zah | apply zak)) hb)
    replace HV := zaa.mk (zan (by repeat (first | exact HV.out | apply zai | apply zah | apply zak)) hb)
    replace HB := zaa.mk (zam (by repeat (first | exact HB.out | apply zac | apply zab | apply zaf | apply zay)) hb)
    clear hb
    have ht0 := zat HT.out
    have htf := zae HT.out 0
    have hv0 := zat HV.out
    have hvf := zae HV.out 0
    go_wp2_with fail
    refine (zas.calls k s e1 _ HNM.out).mono ?_
    rintro e' w2 ⟨rfl, hd⟩
    have hb := zbj hd
    clear hd
    clear ht0 htf hv0 hvf
    replace HT := zaa.mk (zan (by repeat (first | exact HT.out | apply zai | apply zah | apply zak)) hb)
    replace HV := zaa.mk (zan (by repeat (first | exact HV.out | apply zai | apply zah | apply zak)) hb)
    replace HB := zaa.mk (zam (by repeat (first | exact HB.out | apply zac | apply zab | apply zaf | apply zay)) hb)
    clear hb
    have ht0 := zat HT.out
    have htf := zae HT.out 0
    have hv0 := zat HV.out
    have hvf := zae HV.out 0
    go_wp2_with fail
    refine bodyPost_ret (zbd rfl _ _ (w.heap.size + 1) 24 #[.slice A0 l.length c0] (0, 0) _ rfl (zaJ HV.out 0 _ rfl) Tryz.underlying24 rfl (by kernel_rfl)) rfl ?_
    have hbz := HB.out.setCell (p := ⟨w.heap.size + 1, 0, none⟩) (by show _ ≤ _ + 1; omega) (.slice A0 l.length c0)
    exact ⟨rfl, hbz⟩
set_option maxHeartbeats 8000000 in
set_option maxRecDepth 100000 in
theorem zbg.full (k : Nat) (A0 : Option Addr) (c0 : Nat) (l : List S40) (d : Int) (s : ByteArray) (kind : Int) (target : ByteArray) (now : Int) (w : World) (hr0 : Kd.C k40 w A0 l.length l) (hc0 : l.length ≤ c0) (h1 : 1 ≤ kind) (h3 : kind ≤ 3) (ht3 : kind ≠ 3 → target.toList = ([] : List UInt8)) (n : Nat) (hE : zcp k l d s kind target = some 0) (hp : PlaceG l n) (h64 : n = 64) :
  Calls Tryz.prog 53 #[.agg #[.slice A0 l.length c0], .int .i64 d, .string s, .int .i64 kind, .string target, .int .i64 now] w fun e' w' => e' = .returned (.tuple #[.agg #[.slice A0 l.length c0], .int .i64 0, .int .i64 51]) ∧ Below w.heap.size w w' := by
 have HR0 := zaa.mk hr0
 have HC0 := zaa.mk hc0
 have hut := Tryz.underlying24
 have hun := Tryz.underlying40
 have hum := Tryz.underlying50
 have HB := zaa.mk (zac (zac (Below.refl w.heap.size w) (.cells #[.slice A0 l.length c0] 24)) (.cells #[.slice none 0 0] 24))
 have HT := zaa.mk (zah (za8 w (.cells #[.slice A0 l.length c0] 24)) (.cells #[.slice none 0 0] 24))
 have HV := zaa.mk (za8 (w.alloc (.cells #[.slice A0 l.length c0] 24)) (.cells #[.slice none 0 0] 24))
 rw [World.size_alloc] at HV
 clear hr0 hc0
 have HP := zaa.mk hp
 clear hp
 unfold zcp at hE
 obtain ⟨b, hb, hE⟩ := Option.bind_eq_some_iff.mp hE
 have HD := zaa.mk hb
 clear hb
 have K1 : decide (kind < 1) = false := decide_eq_false (by omega)
 have K2 : decide (kind > 3) = false := decide_eq_false (by omega)
 cases b with
 | false => rw [if_neg (by decide)] at hE; exact absurd (Option.some.inj hE) (by decide)
 | true =>
  rw [if_pos rfl] at hE
  obtain ⟨e1, hn, hE⟩ := Option.bind_eq_some_iff.mp hE
  have HNM := zaa.mk hn
  clear hn
  by_cases z : e1 = 0
  ·rw [if_pos z] at hE
   subst z
   obtain ⟨e2, hl, hE⟩ := Option.bind_eq_some_iff.mp hE
   unfold leadE at hl
   by_cases z : e2 = 0
   ·rw [if_pos z] at hE
    subst z
    have HEN := zaa.mk hE
    clear hE
    by_cases hk3 : kind = 3
    ·rw [if_pos hk3] at hl
     by_cases ht0 : target.toList = ([] : List UInt8)
     ·rw [if_pos ht0] at hl; exact absurd (Option.some.inj hl) (by decide)
     ·rw [if_neg ht0] at hl
      have T0 : target.toList.isEmpty = false := by rw [Bool.eq_false_iff]; exact fun q => ht0 (List.isEmpty_iff.1 q)
      obtain ⟨b, hzr, hl⟩ := Option.bind_eq_some_iff.mp hl
      have HZR := zaa.mk hzr
      clear hzr
      cases b with
      | true => rw [if_pos rfl] at hl; exact absurd (Option.some.inj hl) (by decide)
      | false =>
       rw [if_neg (by decide)] at hl
       by_cases h5 : (target.size : Int) > 512
       ·rw [if_pos h5] at hl; exact absurd (Option.some.inj hl) (by decide)
       ·clear hl
        have T5 : decide ((target.size : Int) > 512) = false := decide_eq_false h5
        have T6 : decide (target.size > 512) = false := decide_eq_false (by omega)
        have K3 : (kind == 3) = true := by simpa using hk3
        have K4 : (kind != 3) = false := by simpa using hk3
        clear hk3
        have ht0 := zat HT.out
        have htf := zae HT.out 0
        have hv0 := zat HV.out
        have hvf := zae HV.out 0
        go_enter Tryz.func53, Tryz.ntmps53
        go_wp2_with (first | fail)
        refine (zaG.calls A0 c0 l d true _ (Kd.C_below HR0.out HB.out) HC0.out HD.out).mono ?_
        rintro e' w1 ⟨rfl, hb⟩
        clear ht0 htf hv0 hvf
        replace HT := zaa.mk (zan (by repeat (first | exact HT.out | apply zai | apply zah | apply zak)) hb)
        replace HV := zaa.mk (zan (by repeat (first | exact HV.out | apply zai | apply zah | apply zak)) hb)
        replace HB := zaa.mk (zam (by repeat (first | exact HB.out | apply zac | apply zab | apply zaf | apply zay)) hb)
        clear hb
        have ht0 := zat HT.out
        have htf := zae HT.out 0
        have hv0 := zat HV.out
        have hvf := zae HV.out 0
        go_wp2_with fail
        refine (zas.calls k s 0 _ HNM.out).mono ?_
        rintro e' w2 ⟨rfl, hd⟩
        have hb := zbj hd
        clear hd
        clear ht0 htf hv0 hvf
        replace HT := zaa.mk (zan (by repeat (first | exact HT.out | apply zai | apply zah | apply zak)) hb)
        replace HV := zaa.mk (zan (by repeat (first | exact HV.out | apply zai | apply zah | apply zak)) hb)
        replace HB := zaa.mk (zam (by repeat (first | exact HB.out | apply zac | apply zab | apply zaf | apply zay)) hb)
        clear hb
        have ht0 := zat HT.out
        have htf := zae HT.out 0
        have hv0 := zat HV.out
        have hvf := zae HV.out 0
        go_wp2_with fail
        refine (zaE.calls k target false _ HZR.out).mono ?_
        rintro e' w3 ⟨rfl, hd⟩
        have hb := zbj hd
        clear hd
        clear ht0 htf hv0 hvf
        replace HT := zaa.mk (zan (by repeat (first | exact HT.out | apply zai | apply zah | apply zak)) hb)
        replace HV := zaa.mk (zan (by repeat (first | exact HV.out | apply zai | apply zah | apply zak)) hb)
        replace HB := zaa.mk (zam (by repeat (first | exact HB.out | apply zac | apply zab | apply zaf | apply zay)) hb)
        clear hb
        have ht0 := zat HT.out
        have htf := zae HT.out 0
        have hv0 := zat HV.out
        have hvf := zae HV.out 0
        go_wp2_with (first | fail)
        refine (za5.calls k A0 c0 l d s 0 _ (Kd.C_below HR0.out HB.out) HC0.out HEN.out).mono ?_
        rintro e' w4 ⟨rfl, hb⟩
        clear ht0 htf hv0 hvf
        replace HT := zaa.mk (zan (by repeat (first | exact HT.out | apply zai | apply zah | apply zak)) hb)
        replace HV := zaa.mk (zan (by repeat (first | exact HV.out | apply zai | apply zah | apply zak)) hb)
        replace HB := zaa.mk (zam (by repeat (first | exact HB.out | apply zac | apply zab | apply zaf | apply zay)) hb)
        clear hb
        have ht0 := zat HT.out
        have htf := zae HT.out 0
        have hv0 := zat HV.out
        have hvf := zae HV.out 0
        go_wp2
        go_loop [16] (fun v16 => ∃ i : Nat, i ≤ n ∧ v16 = .int .i64 i) (fun v16 => n - (intOf v16).toNat)
        case atStart => exact ⟨0, Nat.zero_le _, rfl⟩
        case round =>
         obtain ⟨i, hi, rfl⟩ := hrel
         by_cases hin : i < n
         ·obtain ⟨na, B1, m1, B2, m2, hA, hx0, hx1, hx2, hx3, hx4, hx5, hl1, hi1, hl2, hi2⟩ := zbf (Kd.C_below HR0.out HB.out) (i : Int) (by omega) (by have := HP.out.le; omega)
          subst hA
          rw [Int.toNat_natCast] at hx0
          clear hx1 hx2 hx3 hx4 hx5 hl1 hi1 hl2 hi2
          have L0 : ((zaj l (i : Int)).f0 != 0) = true := by have := HP.out.no i hin; simpa using this
          have L1 : decide ((i : Int) < (l.length : Int)) = true := decide_eq_true (by have := HP.out.le; omega)
          have L2 : decide (i < l.length) = true := decide_eq_true (by have := HP.out.le; omega)
          have L3 : i < l.length := by have := HP.out.le; omega
          have L4 : i ≤ 64 := by have := HP.out.lt; omega
          go_wp2
          go_round
          case rel => exact ⟨i + 1, by omega, by go_num⟩
          case measure => simp [intOf]; omega
         ·obtain rfl : i = n := by omega
          clear hin hi
          have hlen : i = l.length := by have := HP.out.le; have := HP.out.lt; omega
          have L1 : decide ((i : Int) < (l.length : Int)) = false := decide_eq_false (by omega)
          have L2 : decide (i < l.length) = false := decide_eq_false (by omega)
          have N64 : ((i : Int) == 64) = true := by simpa using (show (i : Int) = 64 by omega)
          go_wp2_with fail
          refine bodyPost_ret (zbd rfl _ _ (w.heap.size + 1) 24 #[.slice A0 l.length c0] (0, 0) _ rfl (zaJ HV.out 0 _ rfl) Tryz.underlying24 rfl (by kernel_rfl)) rfl ?_
          have hbz := HB.out.setCell (p := ⟨w.heap.size + 1, 0, none⟩) (by show _ ≤ _ + 1; omega) (.slice A0 l.length c0)
          exact ⟨rfl, hbz⟩
    ·clear hl
     have K3 : (kind == 3) = false := by simpa using hk3
     have K4 : (kind != 3) = true := by simpa using hk3
     have K5 : target.toList.isEmpty = true := by rw [ht3 hk3]; rfl
     have ht0 := zat HT.out
     have htf := zae HT.out 0
     have hv0 := zat HV.out
     have hvf := zae HV.out 0
     go_enter Tryz.func53, Tryz.ntmps53
     go_wp2_with (first | fail)
     refine (zaG.calls A0 c0 l d true _ (Kd.C_below HR0.out HB.out) HC0.out HD.out).mono ?_
     rintro e' w1 ⟨rfl, hb⟩
     clear ht0 htf hv0 hvf
     replace HT := zaa.mk (zan (by repeat (first | exact HT.out | apply zai | apply zah | apply zak)) hb)
     replace HV := zaa.mk (zan (by repeat (first | exact HV.out | apply zai | apply zah | apply zak)) hb)
     replace HB := zaa.mk (zam (by repeat (first | exact HB.out | apply zac | apply zab | apply zaf | apply zay)) hb)
     clear hb
     have ht0 := zat HT.out
     have htf := zae HT.out 0
     have hv0 := zat HV.out
     have hvf := zae HV.out 0
     go_wp2_with fail
     refine (zas.calls k s 0 _ HNM.out).mono ?_
     rintro e' w2 ⟨rfl, hd⟩
     have hb := zbj hd
     clear hd
     clear ht0 htf hv0 hvf
     replace HT := zaa.mk (zan (by repeat (first | exact HT.out | apply zai | apply zah | apply zak)) hb)
     replace HV := zaa.mk (zan (by repeat (first | exact HV.out | apply zai | apply zah | apply zak)) hb)
     replace HB := zaa.mk (zam (by repeat (first | exact HB.out | apply zac | apply zab | apply zaf | apply zay)) hb)
     clear hb
     have ht0 := zat HT.out
     have htf := zae HT.out 0
     have hv0 := zat HV.out
     have hvf := zae HV.out 0
     go_wp2_with (first | fail)
     refine (za5.calls k A0 c0 l d s 0 _ (Kd.C_below HR0.out HB.out) HC0.out HEN.out).mono ?_
     rintro e' w4 ⟨rfl, hb⟩
     clear ht0 htf hv0 hvf
     replace HT := zaa.mk (zan (by repeat (first | exact HT.out | apply zai | apply zah | apply zak)) hb)
     replace HV := zaa.mk (zan (by repeat (first | exact HV.out | apply zai | apply zah | apply zak)) hb)
     replace HB := zaa.mk (zam (by repeat (first | exact HB.out | apply zac | apply zab | apply zaf | apply zay)) hb)
     clear hb
     have ht0 := zat HT.out
     have htf := zae HT.out 0
     have hv0 := zat HV.out
     have hvf := zae HV.out 0
     go_wp2
     go_loop [16] (fun v16 => ∃ i : Nat, i ≤ n ∧ v16 = .int .i64 i) (fun v16 => n - (intOf v16).toNat)
     case atStart => exact ⟨0, Nat.zero_le _, rfl⟩
     case round =>
      obtain ⟨i, hi, rfl⟩ := hrel
      by_cases hin : i < n
      ·obtain ⟨na, B1, m1, B2, m2, hA, hx0, hx1, hx2, hx3, hx4, hx5, hl1, hi1, hl2, hi2⟩ := zbf (Kd.C_below HR0.out HB.out) (i : Int) (by omega) (by have := HP.out.le; omega)
       subst hA
       rw [Int.toNat_natCast] at hx0
       clear hx1 hx2 hx3 hx4 hx5 hl1 hi1 hl2 hi2
       have L0 : ((zaj l (i : Int)).f0 != 0) = true := by have := HP.out.no i hin; simpa using this
       have L1 : decide ((i : Int) < (l.length : Int)) = true := decide_eq_true (by have := HP.out.le; omega)
       have L2 : decide (i < l.length) = true := decide_eq_true (by have := HP.out.le; omega)
       have L3 : i < l.length := by have := HP.out.le; omega
       have L4 : i ≤ 64 := by have := HP.out.lt; omega
       go_wp2
       go_round
       case rel => exact ⟨i + 1, by omega, by go_num⟩
       case measure => simp [intOf]; omega
      ·obtain rfl : i = n := by omega
       clear hin hi
       have hlen : i = l.length := by have := HP.out.le; have := HP.out.lt; omega
       have L1 : decide ((i : Int) < (l.length : Int)) = false := decide_eq_false (by omega)
       have L2 : decide (i < l.length) = false := decide_eq_false (by omega)
       have N64 : ((i : Int) == 64) = true := by simpa using (show (i : Int) = 64 by omega)
       go_wp2_with fail
       refine bodyPost_ret (zbd rfl _ _ (w.heap.size + 1) 24 #[.slice A0 l.length c0] (0, 0) _ rfl (zaJ HV.out 0 _ rfl) Tryz.underlying24 rfl (by kernel_rfl)) rfl ?_
       have hbz := HB.out.setCell (p := ⟨w.heap.size + 1, 0, none⟩) (by show _ ≤ _ + 1; omega) (.slice A0 l.length c0)
       exact ⟨rfl, hbz⟩
   ·rw [if_neg z] at hE; exact absurd (Option.some.inj hE) z
  ·rw [if_neg z] at hE; exact absurd (Option.some.inj hE) z
set_option maxHeartbeats 8000000 in
set_option maxRecDepth 100000 in
theorem zbg.ok (k : Nat) (A0 : Option Addr) (c0 : Nat) (l : List S40) (d : Int) (s : ByteArray) (kind : Int) (target : ByteArray) (now : Int) (w : World) (hr0 : Kd.C k40 w A0 l.length l) (hc0 : l.length ≤ c0) (h1 : 1 ≤ kind) (h3 : kind ≤ 3) (ht3 : kind ≠ 3 → target.toList = ([] : List UInt8)) (n : Nat) (hE : zcp k l d s kind target = some 0) (hp : PlaceG l n) (r : List S40) (h64 : n ≠ 64) (hcp : zaX.f k l = some l) (hg : PutG k (newN l n kind target now) d s (n : Int)) (hd : d < (l.length : Int)) (hr : r = zbK (putN (newN l n kind target now) d s (n : Int) now) (n : Int) 1) :
  Calls Tryz.prog 53 #[.agg #[.slice A0 l.length c0], .int .i64 d, .string s, .int .i64 kind, .string target, .int .i64 now] w fun e' w' => ∃ (A : Option Addr) (c : Nat), e' = .returned (.tuple #[.agg #[.slice A r.length c], .int .i64 n, .int .i64 0]) ∧ Kd.S k40 40 w' w.heap.size (fun _ => True) (.slice A r.length c) r ∧ Below w.heap.size w w' := by
 have HR0 := zaa.mk hr0
 have HC0 := zaa.mk hc0
 have hut := Tryz.underlying24
 have hun := Tryz.underlying40
 have hum := Tryz.underlying50
 have HB := zaa.mk (zac (zac (Below.refl w.heap.size w) (.cells #[.slice A0 l.length c0] 24)) (.cells #[.slice none 0 0] 24))
 have HT := zaa.mk (zah (za8 w (.cells #[.slice A0 l.length c0] 24)) (.cells #[.slice none 0 0] 24))
 have HV := zaa.mk (za8 (w.alloc (.cells #[.slice A0 l.length c0] 24)) (.cells #[.slice none 0 0] 24))
 rw [World.size_alloc] at HV
 clear hr0 hc0
 have HD2 := zaa.mk hd
 clear hd
 have HCP := zaa.mk hcp
 have HG := zaa.mk hg
 have HRR := zaa.mk hr
 clear hcp hg hr
 have HP := zaa.mk hp
 clear hp
 unfold zcp at hE
 obtain ⟨b, hb, hE⟩ := Option.bind_eq_some_iff.mp hE
 have HD := zaa.mk hb
 clear hb
 have K1 : decide (kind < 1) = false := decide_eq_false (by omega)
 have K2 : decide (kind > 3) = false := decide_eq_false (by omega)
 cases b with
 | false => rw [if_neg (by decide)] at hE; exact absurd (Option.some.inj hE) (by decide)
 | true =>
  rw [if_pos rfl] at hE
  obtain ⟨e1, hn, hE⟩ := Option.bind_eq_some_iff.mp hE
  have HNM := zaa.mk hn
  clear hn
  by_cases z : e1 = 0
  ·rw [if_pos z] at hE
   subst z
   obtain ⟨e2, hl, hE⟩ := Option.bind_eq_some_iff.mp hE
   unfold leadE at hl
   by_cases z : e2 = 0
   ·rw [if_pos z] at hE
    subst z
    have HEN := zaa.mk hE
    clear hE
    by_cases hk3 : kind = 3
    ·rw [if_pos hk3] at hl
     by_cases ht0 : target.toList = ([] : List UInt8)
     ·rw [if_pos ht0] at hl; exact absurd (Option.some.inj hl) (by decide)
     ·rw [if_neg ht0] at hl
      have T0 : target.toList.isEmpty = false := by rw [Bool.eq_false_iff]; exact fun q => ht0 (List.isEmpty_iff.1 q)
      obtain ⟨b, hzr, hl⟩ := Option.bind_eq_some_iff.mp hl
      have HZR := zaa.mk hzr
      clear hzr
      cases b with
      | true => rw [if_pos rfl] at hl; exact absurd (Option.some.inj hl) (by decide)
      | false =>
       rw [if_neg (by decide)] at hl
       by_cases h5 : (target.size : Int) > 512
       ·rw [if_pos h5] at hl; exact absurd (Option.some.inj hl) (by decide)
       ·clear hl
        have T5 : decide ((target.size : Int) > 512) = false := decide_eq_false h5
        have T6 : decide (target.size > 512) = false := decide_eq_false (by omega)
        have K3 : (kind == 3) = true := by simpa using hk3
        have K4 : (kind != 3) = false := by simpa using hk3
        clear hk3
        have ht0 := zat HT.out
        have htf := zae HT.out 0
        have hv0 := zat HV.out
        have hvf := zae HV.out 0
        go_enter Tryz.func53, Tryz.ntmps53
        go_wp2_with (first | fail)
        refine (zaG.calls A0 c0 l d true _ (Kd.C_below HR0.out HB.out) HC0.out HD.out).mono ?_
        rintro e' w1 ⟨rfl, hb⟩
        clear ht0 htf hv0 hvf
        replace HT := zaa.mk (zan (by repeat (first | exact HT.out | apply zai | apply zah | apply zak)) hb)
        replace HV := zaa.mk (zan (by repeat (first | exact HV.out | apply zai | apply zah | apply zak)) hb)
        replace HB := zaa.mk (zam (by repeat (first | exact HB.out | apply zac | apply zab | apply zaf | apply zay)) hb)
        clear hb
        have ht0 := zat HT.out
        have htf := zae HT.out 0
        have hv0 := zat HV.out
        have hvf := zae HV.out 0
        go_wp2_with fail
        refine (zas.calls k s 0 _ HNM.out).mono ?_
        rintro e' w2 ⟨rfl, hd⟩
        have hb := zbj hd
        clear hd
        clear ht0 htf hv0 hvf
        replace HT := zaa.mk (zan (by repeat (first | exact HT.out | apply zai | apply zah | apply zak)) hb)
        replace HV := zaa.mk (zan (by repeat (first | exact HV.out | apply zai | apply zah | apply zak)) hb)
        replace HB := zaa.mk (zam (by repeat (first | exact HB.out | apply zac | apply zab | apply zaf | apply zay)) hb)
        clear hb
        have ht0 := zat HT.out
        have htf := zae HT.out 0
        have hv0 := zat HV.out
        have hvf := zae HV.out 0
        go_wp2_with fail
        refine (zaE.calls k target false _ HZR.out).mono ?_
        rintro e' w3 ⟨rfl, hd⟩
        have hb := zbj hd
        clear hd
        clear ht0 htf hv0 hvf
        replace HT := zaa.mk (zan (by repeat (first | exact HT.out | apply zai | apply zah | apply zak)) hb)
        replace HV := zaa.mk (zan (by repeat (first | exact HV.out | apply zai | apply zah | apply zak)) hb)
        replace HB := zaa.mk (zam (by repeat (first | exact HB.out | apply zac | apply zab | apply zaf | apply zay)) hb)
        clear hb
        have ht0 := zat HT.out
        have htf := zae HT.out 0
        have hv0 := zat HV.out
        have hvf := zae HV.out 0
        go_wp2_with (first | fail)
        refine (za5.calls k A0 c0 l d s 0 _ (Kd.C_below HR0.out HB.out) HC0.out HEN.out).mono ?_
        rintro e' w4 ⟨rfl, hb⟩
        clear ht0 htf hv0 hvf
        replace HT := zaa.mk (zan (by repeat (first | exact HT.out | apply zai | apply zah | apply zak)) hb)
        replace HV := zaa.mk (zan (by repeat (first | exact HV.out | apply zai | apply zah | apply zak)) hb)
        replace HB := zaa.mk (zam (by repeat (first | exact HB.out | apply zac | apply zab | apply zaf | apply zay)) hb)
        clear hb
        have ht0 := zat HT.out
        have htf := zae HT.out 0
        have hv0 := zat HV.out
        have hvf := zae HV.out 0
        go_wp2
        go_loop [16] (fun v16 => ∃ i : Nat, i ≤ n ∧ v16 = .int .i64 i) (fun v16 => n - (intOf v16).toNat)
        case atStart => exact ⟨0, Nat.zero_le _, rfl⟩
        case round =>
         obtain ⟨i, hi, rfl⟩ := hrel
         by_cases hin : i < n
         ·obtain ⟨na, B1, m1, B2, m2, hA, hx0, hx1, hx2, hx3, hx4, hx5, hl1, hi1, hl2, hi2⟩ := zbf (Kd.C_below HR0.out HB.out) (i : Int) (by omega) (by have := HP.out.le; omega)
          subst hA
          rw [Int.toNat_natCast] at hx0
          clear hx1 hx2 hx3 hx4 hx5 hl1 hi1 hl2 hi2
          have L0 : ((zaj l (i : Int)).f0 != 0) = true := by have := HP.out.no i hin; simpa using this
          have L1 : decide ((i : Int) < (l.length : Int)) = true := decide_eq_true (by have := HP.out.le; omega)
          have L2 : decide (i < l.length) = true := decide_eq_true (by have := HP.out.le; omega)
          have L3 : i < l.length := by have := HP.out.le; omega
          have L4 : i ≤ 64 := by have := HP.out.lt; omega
          go_wp2
          go_round
          case rel => exact ⟨i + 1, by omega, by go_num⟩
          case measure => simp [intOf]; omega
         ·obtain rfl : i = n := by omega
          clear hin hi
          by_cases hlt : i < l.length
          ·obtain ⟨na, B1, m1, B2, m2, hA, hx0, hx1, hx2, hx3, hx4, hx5, hl1, hi1, hl2, hi2⟩ := zbf (Kd.C_below HR0.out HB.out) (i : Int) (by omega) (by omega)
           subst hA
           rw [Int.toNat_natCast] at hx0
           clear hx1 hx2 hx3 hx4 hx5 hl1 hi1 hl2 hi2
           have L0 : ((zaj l (i : Int)).f0 != 0) = false := by have := HP.out.yes hlt; simpa using this
           have L1 : decide ((i : Int) < (l.length : Int)) = true := decide_eq_true (by omega)
           have L2 : decide (i < l.length) = true := decide_eq_true hlt
           have N64 : ((i : Int) == 64) = false := by rw [beq_eq_false_iff_ne]; omega
           have N1 : ((i : Int) == (l.length : Int)) = false := by rw [beq_eq_false_iff_ne]; omega
           go_wp2_with fail
           refine (zaX.calls k (some na) c0 l l _ (Kd.C_below HR0.out HB.out) HC0.out HCP.out).mono ?_
           rintro e' w5 ⟨v, rfl, hS, hb⟩
           obtain ⟨g, cu, rfl, hgN, hgl, _⟩ := Kd.S_form hS (by omega)
           have HS := zaa.mk (Kd.zbD (Kd.zbn (ok' := fun q => q ≠ w.heap.size ∧ q ≠ w.heap.size + 1 ∧ q < w5.heap.size) (Kd.S_bound hS) (fun q hq => ⟨by have := zaF HT.out; have := hq.2.1; omega, by have := zaF HV.out; have := hq.2.1; omega, hq.2.2.1⟩)) HB.out.size)
           clear hS hgN hgl
           clear ht0 htf hv0 hvf
           replace HT := zaa.mk (zan (by repeat (first | exact HT.out | apply zai | apply zah | apply zak)) hb)
           replace HV := zaa.mk (zan (by repeat (first | exact HV.out | apply zai | apply zah | apply zak)) hb)
           replace HB := zaa.mk (zam (by repeat (first | exact HB.out | apply zac | apply zab | apply zaf | apply zay)) hb)
           clear hb
           have HLT : zaa (w.heap.size < w5.heap.size ∧ w.heap.size + 1 < w5.heap.size) := ⟨zaF HT.out, zaF HV.out⟩
           go_upto_region 22 with fail
           replace HT := zaa.mk (zah HT.out (.cells #[.slice (some ⟨g, 0, none⟩) l.length cu] 24))
           replace HV := zaa.mk (zah HV.out (.cells #[.slice (some ⟨g, 0, none⟩) l.length cu] 24))
           replace HB := zaa.mk (zac HB.out (.cells #[.slice (some ⟨g, 0, none⟩) l.length cu] 24))
           replace HS := zaa.mk (Kd.za6 HS.out (zac (Below.refl _ _) (.cells #[.slice (some ⟨g, 0, none⟩) l.length cu] 24)))
           have HU := zaa.mk (za8 w5 (.cells #[.slice (some ⟨g, 0, none⟩) l.length cu] 24))
           have hgt : w.heap.size < w5.heap.size ∧ w.heap.size + 1 < w5.heap.size := HLT.out
           obtain ⟨g6, hg6⟩ : ∃ g6, g6 = w5.heap.size := ⟨_, rfl⟩
           rw [← hg6] at HU HS hgt ⊢
           clear hg6 HLT
           replace HS := zaa.mk (Kd.zbn (ok' := fun q => q ≠ w.heap.size ∧ q ≠ w.heap.size + 1 ∧ q ≠ g6) HS.out (fun q hq => ⟨hq.1, hq.2.1, by omega⟩))
           have ht0 := zat HT.out
           have htf := zae HT.out 0
           have hv0 := zat HV.out
           have hvf := zae HV.out 0
           have hu0 := zat HU.out
           have huf := zae HU.out 0
           have HXL : zaa (g6 < (w5.alloc (.cells #[.slice (some ⟨g, 0, none⟩) l.length cu] 24)).heap.size) := ⟨zaF HU.out⟩
           go_upto_region 23 with fail
           clear ht0 htf hv0 hvf hu0 huf
           replace HT := zaa.mk (zah HT.out (.cells #[.int .i64 kind, .slice none 0 0, .slice none 0 0, .string target, .int .i64 0, .int .i64 now] 40))
           replace HV := zaa.mk (zah HV.out (.cells #[.int .i64 kind, .slice none 0 0, .slice none 0 0, .string target, .int .i64 0, .int .i64 now] 40))
           replace HB := zaa.mk (zac HB.out (.cells #[.int .i64 kind, .slice none 0 0, .slice none 0 0, .string target, .int .i64 0, .int .i64 now] 40))
           replace HS := zaa.mk (Kd.za6 HS.out (zac (Below.refl _ _) (.cells #[.int .i64 kind, .slice none 0 0, .slice none 0 0, .string target, .int .i64 0, .int .i64 now] 40)))
           replace HU := zaa.mk (zah HU.out (.cells #[.int .i64 kind, .slice none 0 0, .slice none 0 0, .string target, .int .i64 0, .int .i64 now] 40))
           have HXB := zaa.mk (za8 (w5.alloc (.cells #[.slice (some ⟨g, 0, none⟩) l.length cu] 24)) (.cells #[.int .i64 kind, .slice none 0 0, .slice none 0 0, .string target, .int .i64 0, .int .i64 now] 40))
           obtain ⟨g8, hg8⟩ : ∃ g8, g8 = (w5.alloc (.cells #[.slice (some ⟨g, 0, none⟩) l.length cu] 24)).heap.size := ⟨_, rfl⟩
           rw [← hg8] at HXB
           (try rw [World.size_alloc] at hg8)
           (try rw [← hg8])
           clear hg8 HXL
           have ht0 := zat HT.out
           have htf := zae HT.out 0
           have hv0 := zat HV.out
           have hvf := zae HV.out 0
           have hu0 := zat HU.out
           have huf := zae HU.out 0
           have hy0 := (zad HXB.out 0).trans rfl
           have hy1 := (zad HXB.out 1).trans rfl
           have hy2 := (zad HXB.out 2).trans rfl
           have hy3 := (zad HXB.out 3).trans rfl
           have hy4 := (zad HXB.out 4).trans rfl
           have hy5 := (zad HXB.out 5).trans rfl
           obtain ⟨oki, cs, hcl, _, _, _, hH⟩ := Kd.S_lend HS.out z40 (i : Int) (by omega) (by omega)
           have HCL := zaa.mk hcl
           have HH1 := zaa.mk hH
           clear hcl hH
           go_wp2_with (first | (refine Kd.H_store k40 (w0 := w) w.heap.size rfl rfl 40 (.tmp 106) (.tmp 105) rfl 40 (o' := i * 6) (i : Int) 0 l ⟨kind, [], [], target, 0, now⟩ (.agg #[.int .i64 kind, .slice none 0 0, .slice none 0 0, .string target, .int .i64 0, .int .i64 now]) [.int .i64 kind, .slice none 0 0, .slice none 0 0, .string target, .int .i64 0, .int .i64 now] cs (fun q => q ≠ w.heap.size ∧ q ≠ w.heap.size + 1 ∧ q ≠ g6) oki (fun _ => False) rfl rfl rfl rfl (by kernel_rfl) (one6 _ _ _ _) HH1.out (by omega) (by omega) (by show 0 + 6 ≤ 6; omega) (by rw [List.drop_eq_nil_of_le (by rw [HCL.out]; show 6 ≤ 0 + 6; omega)]; exact zcr _ _ _ ⟨kind, [], [], target, 0, now⟩ (Kd.R_nil _ _ _ _ _) (Kd.R_nil _ _ _ _ _)) (fun _ hk => hk.elim) HB.out ?_; intro w6 hS6 hb6 hg6; have HNE := Kd.S_ne HS.out HT.out (by decide); have HNE1 := Kd.S_ne HS.out HV.out (by decide); have HNE2 := Kd.S_ne HS.out HU.out (by decide); have HT6 := zaa.mk (zba HT.out hg6 HNE); have HV6 := zaa.mk (zba HV.out hg6 HNE1); have HU6 := zaa.mk (zba HU.out hg6 HNE2); have HS6 := zaa.mk hS6; have HB6 := zaa.mk hb6; have hu6 := zat HU6.out; clear hS6 hb6 hg6 HNE HNE1 HNE2))
           have HN6 : zaa (newN l i kind target now = l.set i ⟨kind, [], [], target, 0, now⟩ ∧ (newN l i kind target now).length = l.length) := by
            have h : newN l i kind target now = l.set i ⟨kind, [], [], target, 0, now⟩ := by unfold newN; rw [if_neg (by omega)]
            exact ⟨h, by rw [h, List.length_set]⟩
           replace HT := HT6
           replace HV := HV6
           replace HU := HU6
           replace HB := HB6
           have HS7 := zaa.mk (show Kd.S k40 40 w6 w.heap.size (fun q => q ≠ w.heap.size ∧ q ≠ w.heap.size + 1 ∧ q ≠ g6) (.slice (some ⟨g, 0, none⟩) l.length cu) (newN l i kind target now) by rw [HN6.out.1]; exact HS6.out)
           replace HS := HS7
           clear HT6 HV6 HU6 HB6 HS6 HS7
           refine (zb1.calls k _ w.heap.size g cu l.length (fun q => q ≠ w.heap.size ∧ q ≠ w.heap.size + 1 ∧ q ≠ g6) (newN l i kind target now) HN6.out.2 d s (i : Int) now HS.out HG.out.d0 (by have := HG.out.d1; rwa [HN6.out.2] at this) HG.out.n0 (by have := HG.out.n1; rwa [HN6.out.2] at this) (fun q hq => ⟨by have := zaF HT.out; omega, by have := zaF HV.out; omega, by have := zaF HU.out; omega⟩) HB.out.size HG.out.len HG.out.copy).mono ?_
           rintro e' w7 ⟨rfl, hS7, hb7, ho7⟩
           replace HT := zaa.mk ((ho7 w.heap.size (zaF HT.out) (by simp)).trans HT.out)
           replace HV := zaa.mk ((ho7 (w.heap.size + 1) (zaF HV.out) (by simp)).trans HV.out)
           replace HU := zaa.mk ((ho7 g6 (zaF HU.out) (by simp)).trans HU.out)
           replace HB := zaa.mk (HB.out.trans hb7)
           replace HS := zaa.mk hS7
           clear ho7 hb7 hS7
           have hu7 := zat HU.out
           have hv7 := zat HV.out
           have hvf7 := zae HV.out 0
           go_wp2_with fail
           refine bodyPost_ret (zbd rfl _ _ (w.heap.size + 1) 24 #[.slice (some ⟨g, 0, none⟩) l.length cu] (0, 0) _ rfl (zaJ HV.out 0 _ rfl) Tryz.underlying24 rfl (by kernel_rfl)) rfl ?_
           have hs := Kd.S_set HS.out HV.out (by decide) 0 (.slice (some ⟨g, 0, none⟩) l.length cu)
           rw [← HRR.out] at hs
           have hlr : r.length = l.length := by rw [HRR.out]; unfold zbK putN; rw [List.length_set, List.length_set]; exact HN6.out.2
           rw [← hlr] at hs ⊢
           exact ⟨_, _, rfl, Kd.zbn hs (fun _ _ => trivial), HB.out.setCell (p := ⟨w.heap.size + 1, 0, none⟩) (by show _ ≤ _ + 1; omega) _⟩
          ·have hlen : i = l.length := by have := HP.out.le; omega
           have L1 : decide ((i : Int) < (l.length : Int)) = false := decide_eq_false (by omega)
           have L2 : decide (i < l.length) = false := decide_eq_false (by omega)
           have N64 : ((i : Int) == 64) = false := by rw [beq_eq_false_iff_ne]; omega
           have N1 : ((i : Int) == (l.length : Int)) = true := by rw [beq_iff_eq]; omega
           subst hlen
           clear hlt
           go_wp2_with fail
           refine (zaX.calls k A0 c0 l l _ (Kd.C_below HR0.out HB.out) HC0.out HCP.out).mono ?_
           rintro e' w5 ⟨v, rfl, hS, hb⟩
           obtain ⟨g, cu, rfl, hgN, hgl, _⟩ := Kd.S_form hS (by have := HD2.out; have := HG.out.d0; omega)
           have HS := zaa.mk (Kd.zbD (Kd.zbn (ok' := fun q => q ≠ w.heap.size ∧ q ≠ w.heap.size + 1 ∧ q < w5.heap.size) (Kd.S_bound hS) (fun q hq => ⟨by have := zaF HT.out; have := hq.2.1; omega, by have := zaF HV.out; have := hq.2.1; omega, hq.2.2.1⟩)) HB.out.size)
           clear hS hgN hgl
           clear ht0 htf hv0 hvf
           replace HT := zaa.mk (zan (by repeat (first | exact HT.out | apply zai | apply zah | apply zak)) hb)
           replace HV := zaa.mk (zan (by repeat (first | exact HV.out | apply zai | apply zah | apply zak)) hb)
           replace HB := zaa.mk (zam (by repeat (first | exact HB.out | apply zac | apply zab | apply zaf | apply zay)) hb)
           clear hb
           have HLT : zaa (w.heap.size < w5.heap.size ∧ w.heap.size + 1 < w5.heap.size) := ⟨zaF HT.out, zaF HV.out⟩
           go_upto_region 22 with fail
           replace HT := zaa.mk (zah HT.out (.cells #[.slice (some ⟨g, 0, none⟩) l.length cu] 24))
           replace HV := zaa.mk (zah HV.out (.cells #[.slice (some ⟨g, 0, none⟩) l.length cu] 24))
           replace HB := zaa.mk (zac HB.out (.cells #[.slice (some ⟨g, 0, none⟩) l.length cu] 24))
           replace HS := zaa.mk (Kd.za6 HS.out (zac (Below.refl _ _) (.cells #[.slice (some ⟨g, 0, none⟩) l.length cu] 24)))
           have HU := zaa.mk (za8 w5 (.cells #[.slice (some ⟨g, 0, none⟩) l.length cu] 24))
           have hgt : w.heap.size < w5.heap.size ∧ w.heap.size + 1 < w5.heap.size := HLT.out
           obtain ⟨g6, hg6⟩ : ∃ g6, g6 = w5.heap.size := ⟨_, rfl⟩
           rw [← hg6] at HU HS hgt ⊢
           clear hg6 HLT
           replace HS := zaa.mk (Kd.zbn (ok' := fun q => q ≠ w.heap.size ∧ q ≠ w.heap.size + 1 ∧ q ≠ g6) HS.out (fun q hq => ⟨hq.1, hq.2.1, by omega⟩))
           have ht0 := zat HT.out
           have htf := zae HT.out 0
           have hv0 := zat HV.out
           have hvf := zae HV.out 0
           have hu0 := zat HU.out
           have huf := zae HU.out 0
           have HXL : zaa (g6 < (w5.alloc (.cells #[.slice (some ⟨g, 0, none⟩) l.length cu] 24)).heap.size) := ⟨zaF HU.out⟩
           go_upto_region 23 with fail
           clear ht0 htf hv0 hvf hu0 huf
           replace HT := zaa.mk (zah HT.out (.cells #[.int .i64 kind, .slice none 0 0, .slice none 0 0, .string target, .int .i64 0, .int .i64 now] 40))
           replace HV := zaa.mk (zah HV.out (.cells #[.int .i64 kind, .slice none 0 0, .slice none 0 0, .string target, .int .i64 0, .int .i64 now] 40))
           replace HB := zaa.mk (zac HB.out (.cells #[.int .i64 kind, .slice none 0 0, .slice none 0 0, .string target, .int .i64 0, .int .i64 now] 40))
           replace HS := zaa.mk (Kd.za6 HS.out (zac (Below.refl _ _) (.cells #[.int .i64 kind, .slice none 0 0, .slice none 0 0, .string target, .int .i64 0, .int .i64 now] 40)))
           replace HU := zaa.mk (zah HU.out (.cells #[.int .i64 kind, .slice none 0 0, .slice none 0 0, .string target, .int .i64 0, .int .i64 now] 40))
           have HXB := zaa.mk (za8 (w5.alloc (.cells #[.slice (some ⟨g, 0, none⟩) l.length cu] 24)) (.cells #[.int .i64 kind, .slice none 0 0, .slice none 0 0, .string target, .int .i64 0, .int .i64 now] 40))
           obtain ⟨g8, hg8⟩ : ∃ g8, g8 = (w5.alloc (.cells #[.slice (some ⟨g, 0, none⟩) l.length cu] 24)).heap.size := ⟨_, rfl⟩
           rw [← hg8] at HXB
           (try rw [World.size_alloc] at hg8)
           (try rw [← hg8])
           clear hg8 HXL
           have ht0 := zat HT.out
           have htf := zae HT.out 0
           have hv0 := zat HV.out
           have hvf := zae HV.out 0
           have hu0 := zat HU.out
           have huf := zae HU.out 0
           have hy0 := (zad HXB.out 0).trans rfl
           have hy1 := (zad HXB.out 1).trans rfl
           have hy2 := (zad HXB.out 2).trans rfl
           have hy3 := (zad HXB.out 3).trans rfl
           have hy4 := (zad HXB.out 4).trans rfl
           have hy5 := (zad HXB.out 5).trans rfl
           have HLL : zaa (l.length ≤ 64) := ⟨HP.out.lt⟩
           have hl64 := HLL.out
           go_upto_region 24 with fail
           go_wp2_with (first | (at_builtin; refine Kd.S_append k40 (w0 := w) w.heap.size rfl (.tmp 97) (.tmp 99) 22 40 (.agg #[.int .i64 0, .slice none 0 0, .slice none 0 0, .string ⟨#[]⟩, .int .i64 0, .int .i64 0]) 88 rfl Tryz.underlying22 info40 rfl (by decide) (by omega) (.slice (some ⟨g, 0, none⟩) l.length cu) l ⟨kind, [], [], target, 0, now⟩ [.int .i64 kind, .slice none 0 0, .slice none 0 0, .string target, .int .i64 0, .int .i64 now] (fun q => q ≠ w.heap.size ∧ q ≠ w.heap.size + 1 ∧ q ≠ g6) (fun _ => False) rfl ?hx (zcr _ _ _ ⟨kind, [], [], target, 0, now⟩ (Kd.R_nil _ _ _ _ _) (Kd.R_nil _ _ _ _ _)) (fun _ hk => hk.elim) (fun q hq => ⟨by have := zaF HT.out; omega, by have := zaF HV.out; omega, by have := zaF HU.out; omega⟩) (Kd.zbn HS.out (fun _ hk => ⟨hk, fun h => h⟩)) HB.out HB.out.size (by omega) ?_; (case hx => first | rfl | exact congrArg (fun q => Value.slice (some ⟨q, 0, none⟩) 1 1) (by simp)); intro v2 w2 hS2 hb2 hg2 hat; obtain ⟨g2, c2, e2, hgN, hgl, _⟩ := Kd.S_form hS2 (by simp); rw [show (l ++ [(⟨kind, [], [], target, 0, now⟩ : S40)]).length = l.length + 1 from by simp] at e2; subst e2; have HT6 := zaa.mk (zba HT.out hg2 (Kd.S_ne HS.out HT.out (by decide))); have HV6 := zaa.mk (zba HV.out hg2 (Kd.S_ne HS.out HV.out (by decide))); have HU6 := zaa.mk (zba HU.out hg2 (Kd.S_ne HS.out HU.out (by decide))); have HS6 := zaa.mk hS2; have HB6 := zaa.mk hb2; have hu6 := zat HU6.out; have huf6 := zae HU6.out 0; have hu7 := zat (zaJ HU6.out 0 (.slice (some ⟨g2, 0, none⟩) (l.length + 1) c2) rfl); clear hS2 hb2 hg2 hat hgN hgl))
           have HN6 : zaa (newN l l.length kind target now = l ++ [⟨kind, [], [], target, 0, now⟩] ∧ (newN l l.length kind target now).length = l.length + 1) := by
            have h : newN l l.length kind target now = l ++ [⟨kind, [], [], target, 0, now⟩] := by unfold newN; rw [if_pos rfl]
            exact ⟨h, by rw [h]; simp⟩
           have HU7 := zaa.mk (zaJ HU6.out 0 (.slice (some ⟨g2, 0, none⟩) (l.length + 1) c2) rfl)
           replace HT := zaa.mk (zaH HT6.out (p := ⟨g6, 0, none⟩) (by show _ ≠ g6; omega) (.slice (some ⟨g2, 0, none⟩) (l.length + 1) c2))
           replace HV := zaa.mk (zaH HV6.out (p := ⟨g6, 0, none⟩) (by show _ ≠ g6; omega) (.slice (some ⟨g2, 0, none⟩) (l.length + 1) c2))
           replace HU := HU7
           replace HB := zaa.mk (HB6.out.setCell (p := ⟨g6, 0, none⟩) (by show _ ≤ g6; omega) (.slice (some ⟨g2, 0, none⟩) (l.length + 1) c2))
           have HS7 := zaa.mk (Kd.S_set HS6.out HU6.out (by decide) 0 (.slice (some ⟨g2, 0, none⟩) (l.length + 1) c2))
           rw [← HN6.out.1] at HS7
           replace HS := HS7
           clear HT6 HV6 HU6 HU7 HB6 HS6 HS7
           refine (zb1.calls k _ w.heap.size g2 c2 (l.length + 1) (fun q => q ≠ w.heap.size ∧ q ≠ w.heap.size + 1 ∧ q ≠ g6) (newN l l.length kind target now) HN6.out.2 d s (l.length : Int) now HS.out HG.out.d0 (by have := HG.out.d1; rwa [HN6.out.2] at this) HG.out.n0 (by have := HG.out.n1; rwa [HN6.out.2] at this) (fun q hq => ⟨by have := zaF HT.out; omega, by have := zaF HV.out; omega, by have := zaF HU.out; omega⟩) HB.out.size HG.out.len HG.out.copy).mono ?_
           rintro e' w7 ⟨rfl, hS7, hb7, ho7⟩
           replace HT := zaa.mk ((ho7 w.heap.size (zaF HT.out) (by simp)).trans HT.out)
           replace HV := zaa.mk ((ho7 (w.heap.size + 1) (zaF HV.out) (by simp)).trans HV.out)
           replace HU := zaa.mk ((ho7 g6 (zaF HU.out) (by simp)).trans HU.out)
           replace HB := zaa.mk (HB.out.trans hb7)
           replace HS := zaa.mk hS7
           clear ho7 hb7 hS7
           have hu7 := zat HU.out
           have hv7 := zat HV.out
           have hvf7 := zae HV.out 0
           go_wp2_with fail
           refine bodyPost_ret (zbd rfl _ _ (w.heap.size + 1) 24 #[.slice (some ⟨g2, 0, none⟩) (l.length + 1) c2] (0, 0) _ rfl (zaJ HV.out 0 _ rfl) Tryz.underlying24 rfl (by kernel_rfl)) rfl ?_
           have hs := Kd.S_set HS.out HV.out (by decide) 0 (.slice (some ⟨g2, 0, none⟩) (l.length + 1) c2)
           rw [← HRR.out] at hs
           have hlr : r.length = (l.length + 1) := by rw [HRR.out]; unfold zbK putN; rw [List.length_set, List.length_set]; exact HN6.out.2
           rw [← hlr] at hs ⊢
           exact ⟨_, _, rfl, Kd.zbn hs (fun _ _ => trivial), HB.out.setCell (p := ⟨w.heap.size + 1, 0, none⟩) (by show _ ≤ _ + 1; omega) _⟩
    ·clear hl
     have K3 : (kind == 3) = false := by simpa using hk3
     have K4 : (kind != 3) = true := by simpa using hk3
     have K5 : target.toList.isEmpty = true := by rw [ht3 hk3]; rfl
     have ht0 := zat HT.out
     have htf := zae HT.out 0
     have hv0 := zat HV.out
     have hvf := zae HV.out 0
     go_enter Tryz.func53, Tryz.ntmps53
     go_wp2_with (first | fail)
     refine (zaG.calls A0 c0 l d true _ (Kd.C_below HR0.out HB.out) HC0.out HD.out).mono ?_
     rintro e' w1 ⟨rfl, hb⟩
     clear ht0 htf hv0 hvf
     replace HT := zaa.mk (zan (by repeat (first | exact HT.out | apply zai | apply zah | apply zak)) hb)
     replace HV := zaa.mk (zan (by repeat (first | exact HV.out | apply zai | apply zah | apply zak)) hb)
     replace HB := zaa.mk (zam (by repeat (first | exact HB.out | apply zac | apply zab | apply zaf | apply zay)) hb)
     clear hb
     have ht0 := zat HT.out
     have htf := zae HT.out 0
     have hv0 := zat HV.out
     have hvf := zae HV.out 0
     go_wp2_with fail
     refine (zas.calls k s 0 _ HNM.out).mono ?_
     rintro e' w2 ⟨rfl, hd⟩
     have hb := zbj hd
     clear hd
     clear ht0 htf hv0 hvf
     replace HT := zaa.mk (zan (by repeat (first | exact HT.out | apply zai | apply zah | apply zak)) hb)
     replace HV := zaa.mk (zan (by repeat (first | exact HV.out | apply zai | apply zah | apply zak)) hb)
     replace HB := zaa.mk (zam (by repeat (first | exact HB.out | apply zac | apply zab | apply zaf | apply zay)) hb)
     clear hb
     have ht0 := zat HT.out
     have htf := zae HT.out 0
     have hv0 := zat HV.out
     have hvf := zae HV.out 0
     go_wp2_with (first | fail)
     refine (za5.calls k A0 c0 l d s 0 _ (Kd.C_below HR0.out HB.out) HC0.out HEN.out).mono ?_
     rintro e' w4 ⟨rfl, hb⟩
     clear ht0 htf hv0 hvf
     replace HT := zaa.mk (zan (by repeat (first | exact HT.out | apply zai | apply zah | apply zak)) hb)
     replace HV := zaa.mk (zan (by repeat (first | exact HV.out | apply zai | apply zah | apply zak)) hb)
     replace HB := zaa.mk (zam (by repeat (first | exact HB.out | apply zac | apply zab | apply zaf | apply zay)) hb)
     clear hb
     have ht0 := zat HT.out
     have htf := zae HT.out 0
     have hv0 := zat HV.out
     have hvf := zae HV.out 0
     go_wp2
     go_loop [16] (fun v16 => ∃ i : Nat, i ≤ n ∧ v16 = .int .i64 i) (fun v16 => n - (intOf v16).toNat)
     case atStart => exact ⟨0, Nat.zero_le _, rfl⟩
     case round =>
      obtain ⟨i, hi, rfl⟩ := hrel
      by_cases hin : i < n
      ·obtain ⟨na, B1, m1, B2, m2, hA, hx0, hx1, hx2, hx3, hx4, hx5, hl1, hi1, hl2, hi2⟩ := zbf (Kd.C_below HR0.out HB.out) (i : Int) (by omega) (by have := HP.out.le; omega)
       subst hA
       rw [Int.toNat_natCast] at hx0
       clear hx1 hx2 hx3 hx4 hx5 hl1 hi1 hl2 hi2
       have L0 : ((zaj l (i : Int)).f0 != 0) = true := by have := HP.out.no i hin; simpa using this
       have L1 : decide ((i : Int) < (l.length : Int)) = true := decide_eq_true (by have := HP.out.le; omega)
       have L2 : decide (i < l.length) = true := decide_eq_true (by have := HP.out.le; omega)
       have L3 : i < l.length := by have := HP.out.le; omega
       have L4 : i ≤ 64 := by have := HP.out.lt; omega
       go_wp2
       go_round
       case rel => exact ⟨i + 1, by omega, by go_num⟩
       case measure => simp [intOf]; omega
      ·obtain rfl : i = n := by omega
       clear hin hi
       by_cases hlt : i < l.length
       ·obtain ⟨na, B1, m1, B2, m2, hA, hx0, hx1, hx2, hx3, hx4, hx5, hl1, hi1, hl2, hi2⟩ := zbf (Kd.C_below HR0.out HB.out) (i : Int) (by omega) (by omega)
        subst hA
        rw [Int.toNat_natCast] at hx0
        clear hx1 hx2 hx3 hx4 hx5 hl1 hi1 hl2 hi2
        have L0 : ((zaj l (i : Int)).f0 != 0) = false := by have := HP.out.yes hlt; simpa using this
        have L1 : decide ((i : Int) < (l.length : Int)) = true := decide_eq_true (by omega)
        have L2 : decide (i < l.length) = true := decide_eq_true hlt
        have N64 : ((i : Int) == 64) = false := by rw [beq_eq_false_iff_ne]; omega
        have N1 : ((i : Int) == (l.length : Int)) = false := by rw [beq_eq_false_iff_ne]; omega
        go_wp2_with fail
        refine (zaX.calls k (some na) c0 l l _ (Kd.C_below HR0.out HB.out) HC0.out HCP.out).mono ?_
        rintro e' w5 ⟨v, rfl, hS, hb⟩
        obtain ⟨g, cu, rfl, hgN, hgl, _⟩ := Kd.S_form hS (by omega)
        have HS := zaa.mk (Kd.zbD (Kd.zbn (ok' := fun q => q ≠ w.heap.size ∧ q ≠ w.heap.size + 1 ∧ q < w5.heap.size) (Kd.S_bound hS) (fun q hq => ⟨by have := zaF HT.out; have := hq.2.1; omega, by have := zaF HV.out; have := hq.2.1; omega, hq.2.2.1⟩)) HB.out.size)
        clear hS hgN hgl
        clear ht0 htf hv0 hvf
        replace HT := zaa.mk (zan (by repeat (first | exact HT.out | apply zai | apply zah | apply zak)) hb)
        replace HV := zaa.mk (zan (by repeat (first | exact HV.out | apply zai | apply zah | apply zak)) hb)
        replace HB := zaa.mk (zam (by repeat (first | exact HB.out | apply zac | apply zab | apply zaf | apply zay)) hb)
        clear hb
        have HLT : zaa (w.heap.size < w5.heap.size ∧ w.heap.size + 1 < w5.heap.size) := ⟨zaF HT.out, zaF HV.out⟩
        go_upto_region 22 with fail
        replace HT := zaa.mk (zah HT.out (.cells #[.slice (some ⟨g, 0, none⟩) l.length cu] 24))
        replace HV := zaa.mk (zah HV.out (.cells #[.slice (some ⟨g, 0, none⟩) l.length cu] 24))
        replace HB := zaa.mk (zac HB.out (.cells #[.slice (some ⟨g, 0, none⟩) l.length cu] 24))
        replace HS := zaa.mk (Kd.za6 HS.out (zac (Below.refl _ _) (.cells #[.slice (some ⟨g, 0, none⟩) l.length cu] 24)))
        have HU := zaa.mk (za8 w5 (.cells #[.slice (some ⟨g, 0, none⟩) l.length cu] 24))
        have hgt : w.heap.size < w5.heap.size ∧ w.heap.size + 1 < w5.heap.size := HLT.out
        obtain ⟨g6, hg6⟩ : ∃ g6, g6 = w5.heap.size := ⟨_, rfl⟩
        rw [← hg6] at HU HS hgt ⊢
        clear hg6 HLT
        replace HS := zaa.mk (Kd.zbn (ok' := fun q => q ≠ w.heap.size ∧ q ≠ w.heap.size + 1 ∧ q ≠ g6) HS.out (fun q hq => ⟨hq.1, hq.2.1, by omega⟩))
        have ht0 := zat HT.out
        have htf := zae HT.out 0
        have hv0 := zat HV.out
        have hvf := zae HV.out 0
        have hu0 := zat HU.out
        have huf := zae HU.out 0
        have HXL : zaa (g6 < (w5.alloc (.cells #[.slice (some ⟨g, 0, none⟩) l.length cu] 24)).heap.size) := ⟨zaF HU.out⟩
        go_upto_region 23 with fail
        clear ht0 htf hv0 hvf hu0 huf
        replace HT := zaa.mk (zah HT.out (.cells #[.int .i64 kind, .slice none 0 0, .slice none 0 0, .string target, .int .i64 0, .int .i64 now] 40))
        replace HV := zaa.mk (zah HV.out (.cells #[.int .i64 kind, .slice none 0 0, .slice none 0 0, .string target, .int .i64 0, .int .i64 now] 40))
        replace HB := zaa.mk (zac HB.out (.cells #[.int .i64 kind, .slice none 0 0, .slice none 0 0, .string target, .int .i64 0, .int .i64 now] 40))
        replace HS := zaa.mk (Kd.za6 HS.out (zac (Below.refl _ _) (.cells #[.int .i64 kind, .slice none 0 0, .slice none 0 0, .string target, .int .i64 0, .int .i64 now] 40)))
        replace HU := zaa.mk (zah HU.out (.cells #[.int .i64 kind, .slice none 0 0, .slice none 0 0, .string target, .int .i64 0, .int .i64 now] 40))
        have HXB := zaa.mk (za8 (w5.alloc (.cells #[.slice (some ⟨g, 0, none⟩) l.length cu] 24)) (.cells #[.int .i64 kind, .slice none 0 0, .slice none 0 0, .string target, .int .i64 0, .int .i64 now] 40))
        obtain ⟨g8, hg8⟩ : ∃ g8, g8 = (w5.alloc (.cells #[.slice (some ⟨g, 0, none⟩) l.length cu] 24)).heap.size := ⟨_, rfl⟩
        rw [← hg8] at HXB
        (try rw [World.size_alloc] at hg8)
        (try rw [← hg8])
        clear hg8 HXL
        have ht0 := zat HT.out
        have htf := zae HT.out 0
        have hv0 := zat HV.out
        have hvf := zae HV.out 0
        have hu0 := zat HU.out
        have huf := zae HU.out 0
        have hy0 := (zad HXB.out 0).trans rfl
        have hy1 := (zad HXB.out 1).trans rfl
        have hy2 := (zad HXB.out 2).trans rfl
        have hy3 := (zad HXB.out 3).trans rfl
        have hy4 := (zad HXB.out 4).trans rfl
        have hy5 := (zad HXB.out 5).trans rfl
        obtain ⟨oki, cs, hcl, _, _, _, hH⟩ := Kd.S_lend HS.out z40 (i : Int) (by omega) (by omega)
        have HCL := zaa.mk hcl
        have HH1 := zaa.mk hH
        clear hcl hH
        go_wp2_with (first | (refine Kd.H_store k40 (w0 := w) w.heap.size rfl rfl 40 (.tmp 106) (.tmp 105) rfl 40 (o' := i * 6) (i : Int) 0 l ⟨kind, [], [], target, 0, now⟩ (.agg #[.int .i64 kind, .slice none 0 0, .slice none 0 0, .string target, .int .i64 0, .int .i64 now]) [.int .i64 kind, .slice none 0 0, .slice none 0 0, .string target, .int .i64 0, .int .i64 now] cs (fun q => q ≠ w.heap.size ∧ q ≠ w.heap.size + 1 ∧ q ≠ g6) oki (fun _ => False) rfl rfl rfl rfl (by kernel_rfl) (one6 _ _ _ _) HH1.out (by omega) (by omega) (by show 0 + 6 ≤ 6; omega) (by rw [List.drop_eq_nil_of_le (by rw [HCL.out]; show 6 ≤ 0 + 6; omega)]; exact zcr _ _ _ ⟨kind, [], [], target, 0, now⟩ (Kd.R_nil _ _ _ _ _) (Kd.R_nil _ _ _ _ _)) (fun _ hk => hk.elim) HB.out ?_; intro w6 hS6 hb6 hg6; have HNE := Kd.S_ne HS.out HT.out (by decide); have HNE1 := Kd.S_ne HS.out HV.out (by decide); have HNE2 := Kd.S_ne HS.out HU.out (by decide); have HT6 := zaa.mk (zba HT.out hg6 HNE); have HV6 := zaa.mk (zba HV.out hg6 HNE1); have HU6 := zaa.mk (zba HU.out hg6 HNE2); have HS6 := zaa.mk hS6; have HB6 := zaa.mk hb6; have hu6 := zat HU6.out; clear hS6 hb6 hg6 HNE HNE1 HNE2))
        have HN6 : zaa (newN l i kind target now = l.set i ⟨kind, [], [], target, 0, now⟩ ∧ (newN l i kind target now).length = l.length) := by
         have h : newN l i kind target now = l.set i ⟨kind, [], [], target, 0, now⟩ := by unfold newN; rw [if_neg (by omega)]
         exact ⟨h, by rw [h, List.length_set]⟩
        replace HT := HT6
        replace HV := HV6
        replace HU := HU6
        replace HB := HB6
        have HS7 := zaa.mk (show Kd.S k40 40 w6 w.heap.size (fun q => q ≠ w.heap.size ∧ q ≠ w.heap.size + 1 ∧ q ≠ g6) (.slice (some ⟨g, 0, none⟩) l.length cu) (newN l i kind target now) by rw [HN6.out.1]; exact HS6.out)
        replace HS := HS7
        clear HT6 HV6 HU6 HB6 HS6 HS7
        refine (zb1.calls k _ w.heap.size g cu l.length (fun q => q ≠ w.heap.size ∧ q ≠ w.heap.size + 1 ∧ q ≠ g6) (newN l i kind target now) HN6.out.2 d s (i : Int) now HS.out HG.out.d0 (by have := HG.out.d1; rwa [HN6.out.2] at this) HG.out.n0 (by have := HG.out.n1; rwa [HN6.out.2] at this) (fun q hq => ⟨by have := zaF HT.out; omega, by have := zaF HV.out; omega, by have := zaF HU.out; omega⟩) HB.out.size HG.out.len HG.out.copy).mono ?_
        rintro e' w7 ⟨rfl, hS7, hb7, ho7⟩
        replace HT := zaa.mk ((ho7 w.heap.size (zaF HT.out) (by simp)).trans HT.out)
        replace HV := zaa.mk ((ho7 (w.heap.size + 1) (zaF HV.out) (by simp)).trans HV.out)
        replace HU := zaa.mk ((ho7 g6 (zaF HU.out) (by simp)).trans HU.out)
        replace HB := zaa.mk (HB.out.trans hb7)
        replace HS := zaa.mk hS7
        clear ho7 hb7 hS7
        have hu7 := zat HU.out
        have hv7 := zat HV.out
        have hvf7 := zae HV.out 0
        go_wp2_with fail
        refine bodyPost_ret (zbd rfl _ _ (w.heap.size + 1) 24 #[.slice (some ⟨g, 0, none⟩) l.length cu] (0, 0) _ rfl (zaJ HV.out 0 _ rfl) Tryz.underlying24 rfl (by kernel_rfl)) rfl ?_
        have hs := Kd.S_set HS.out HV.out (by decide) 0 (.slice (some ⟨g, 0, none⟩) l.length cu)
        rw [← HRR.out] at hs
        have hlr : r.length = l.length := by rw [HRR.out]; unfold zbK putN; rw [List.length_set, List.length_set]; exact HN6.out.2
        rw [← hlr] at hs ⊢
        exact ⟨_, _, rfl, Kd.zbn hs (fun _ _ => trivial), HB.out.setCell (p := ⟨w.heap.size + 1, 0, none⟩) (by show _ ≤ _ + 1; omega) _⟩
       ·have hlen : i = l.length := by have := HP.out.le; omega
        have L1 : decide ((i : Int) < (l.length : Int)) = false := decide_eq_false (by omega)
        have L2 : decide (i < l.length) = false := decide_eq_false (by omega)
        have N64 : ((i : Int) == 64) = false := by rw [beq_eq_false_iff_ne]; omega
        have N1 : ((i : Int) == (l.length : Int)) = true := by rw [beq_iff_eq]; omega
        subst hlen
        clear hlt
        go_wp2_with fail
        refine (zaX.calls k A0 c0 l l _ (Kd.C_below HR0.out HB.out) HC0.out HCP.out).mono ?_
        rintro e' w5 ⟨v, rfl, hS, hb⟩
        obtain ⟨g, cu, rfl, hgN, hgl, _⟩ := Kd.S_form hS (by have := HD2.out; have := HG.out.d0; omega)
        have HS := zaa.mk (Kd.zbD (Kd.zbn (ok' := fun q => q ≠ w.heap.size ∧ q ≠ w.heap.size + 1 ∧ q < w5.heap.size) (Kd.S_bound hS) (fun q hq => ⟨by have := zaF HT.out; have := hq.2.1; omega, by have := zaF HV.out; have := hq.2.1; omega, hq.2.2.1⟩)) HB.out.size)
        clear hS hgN hgl
        clear ht0 htf hv0 hvf
        replace HT := zaa.mk (zan (by repeat (first | exact HT.out | apply zai | apply zah | apply zak)) hb)
        replace HV := zaa.mk (zan (by repeat (first | exact HV.out | apply zai | apply zah | apply zak)) hb)
        replace HB := zaa.mk (zam (by repeat (first | exact HB.out | apply zac | apply zab | apply zaf | apply zay)) hb)
        clear hb
        have HLT : zaa (w.heap.size < w5.heap.size ∧ w.heap.size + 1 < w5.heap.size) := ⟨zaF HT.out, zaF HV.out⟩
        go_upto_region 22 with fail
        replace HT := zaa.mk (zah HT.out (.cells #[.slice (some ⟨g, 0, none⟩) l.length cu] 24))
        replace HV := zaa.mk (zah HV.out (.cells #[.slice (some ⟨g, 0, none⟩) l.length cu] 24))
        replace HB := zaa.mk (zac HB.out (.cells #[.slice (some ⟨g, 0, none⟩) l.length cu] 24))
        replace HS := zaa.mk (Kd.za6 HS.out (zac (Below.refl _ _) (.cells #[.slice (some ⟨g, 0, none⟩) l.length cu] 24)))
        have HU := zaa.mk (za8 w5 (.cells #[.slice (some ⟨g, 0, none⟩) l.length cu] 24))
        have hgt : w.heap.size < w5.heap.size ∧ w.heap.size + 1 < w5.heap.size := HLT.out
        obtain ⟨g6, hg6⟩ : ∃ g6, g6 = w5.heap.size := ⟨_, rfl⟩
        rw [← hg6] at HU HS hgt ⊢
        clear hg6 HLT
        replace HS := zaa.mk (Kd.zbn (ok' := fun q => q ≠ w.heap.size ∧ q ≠ w.heap.size + 1 ∧ q ≠ g6) HS.out (fun q hq => ⟨hq.1, hq.2.1, by omega⟩))
        have ht0 := zat HT.out
        have htf := zae HT.out 0
        have hv0 := zat HV.out
        have hvf := zae HV.out 0
        have hu0 := zat HU.out
        have huf := zae HU.out 0
        have HXL : zaa (g6 < (w5.alloc (.cells #[.slice (some ⟨g, 0, none⟩) l.length cu] 24)).heap.size) := ⟨zaF HU.out⟩
        go_upto_region 23 with fail
        clear ht0 htf hv0 hvf hu0 huf
        replace HT := zaa.mk (zah HT.out (.cells #[.int .i64 kind, .slice none 0 0, .slice none 0 0, .string target, .int .i64 0, .int .i64 now] 40))
        replace HV := zaa.mk (zah HV.out (.cells #[.int .i64 kind, .slice none 0 0, .slice none 0 0, .string target, .int .i64 0, .int .i64 now] 40))
        replace HB := zaa.mk (zac HB.out (.cells #[.int .i64 kind, .slice none 0 0, .slice none 0 0, .string target, .int .i64 0, .int .i64 now] 40))
        replace HS := zaa.mk (Kd.za6 HS.out (zac (Below.refl _ _) (.cells #[.int .i64 kind, .slice none 0 0, .slice none 0 0, .string target, .int .i64 0, .int .i64 now] 40)))
        replace HU := zaa.mk (zah HU.out (.cells #[.int .i64 kind, .slice none 0 0, .slice none 0 0, .string target, .int .i64 0, .int .i64 now] 40))
        have HXB := zaa.mk (za8 (w5.alloc (.cells #[.slice (some ⟨g, 0, none⟩) l.length cu] 24)) (.cells #[.int .i64 kind, .slice none 0 0, .slice none 0 0, .string target, .int .i64 0, .int .i64 now] 40))
        obtain ⟨g8, hg8⟩ : ∃ g8, g8 = (w5.alloc (.cells #[.slice (some ⟨g, 0, none⟩) l.length cu] 24)).heap.size := ⟨_, rfl⟩
        rw [← hg8] at HXB
        (try rw [World.size_alloc] at hg8)
        (try rw [← hg8])
        clear hg8 HXL
        have ht0 := zat HT.out
        have htf := zae HT.out 0
        have hv0 := zat HV.out
        have hvf := zae HV.out 0
        have hu0 := zat HU.out
        have huf := zae HU.out 0
        have hy0 := (zad HXB.out 0).trans rfl
        have hy1 := (zad HXB.out 1).trans rfl
        have hy2 := (zad HXB.out 2).trans rfl
        have hy3 := (zad HXB.out 3).trans rfl
        have hy4 := (zad HXB.out 4).trans rfl
        have hy5 := (zad HXB.out 5).trans rfl
        have HLL : zaa (l.length ≤ 64) := ⟨HP.out.lt⟩
        have hl64 := HLL.out
        go_upto_region 24 with fail
        go_wp2_with (first | (at_builtin; refine Kd.S_append k40 (w0 := w) w.heap.size rfl (.tmp 97) (.tmp 99) 22 40 (.agg #[.int .i64 0, .slice none 0 0, .slice none 0 0, .string ⟨#[]⟩, .int .i64 0, .int .i64 0]) 88 rfl Tryz.underlying22 info40 rfl (by decide) (by omega) (.slice (some ⟨g, 0, none⟩) l.length cu) l ⟨kind, [], [], target, 0, now⟩ [.int .i64 kind, .slice none 0 0, .slice none 0 0, .string target, .int .i64 0, .int .i64 now] (fun q => q ≠ w.heap.size ∧ q ≠ w.heap.size + 1 ∧ q ≠ g6) (fun _ => False) rfl ?hx (zcr _ _ _ ⟨kind, [], [], target, 0, now⟩ (Kd.R_nil _ _ _ _ _) (Kd.R_nil _ _ _ _ _)) (fun _ hk => hk.elim) (fun q hq => ⟨by have := zaF HT.out; omega, by have := zaF HV.out; omega, by have := zaF HU.out; omega⟩) (Kd.zbn HS.out (fun _ hk => ⟨hk, fun h => h⟩)) HB.out HB.out.size (by omega) ?_; (case hx => first | rfl | exact congrArg (fun q => Value.slice (some ⟨q, 0, none⟩) 1 1) (by simp)); intro v2 w2 hS2 hb2 hg2 hat; obtain ⟨g2, c2, e2, hgN, hgl, _⟩ := Kd.S_form hS2 (by simp); rw [show (l ++ [(⟨kind, [], [], target, 0, now⟩ : S40)]).length = l.length + 1 from by simp] at e2; subst e2; have HT6 := zaa.mk (zba HT.out hg2 (Kd.S_ne HS.out HT.out (by decide))); have HV6 := zaa.mk (zba HV.out hg2 (Kd.S_ne HS.out HV.out (by decide))); have HU6 := zaa.mk (zba HU.out hg2 (Kd.S_ne HS.out HU.out (by decide))); have HS6 := zaa.mk hS2; have HB6 := zaa.mk hb2; have hu6 := zat HU6.out; have huf6 := zae HU6.out 0; have hu7 := zat (zaJ HU6.out 0 (.slice (some ⟨g2, 0, none⟩) (l.length + 1) c2) rfl); clear hS2 hb2 hg2 hat hgN hgl))
        have HN6 : zaa (newN l l.length kind target now = l ++ [⟨kind, [], [], target, 0, now⟩] ∧ (newN l l.length kind target now).length = l.length + 1) := by
         have h : newN l l.length kind target now = l ++ [⟨kind, [], [], target, 0, now⟩] := by unfold newN; rw [if_pos rfl]
         exact ⟨h, by rw [h]; simp⟩
        have HU7 := zaa.mk (zaJ HU6.out 0 (.slice (some ⟨g2, 0, none⟩) (l.length + 1) c2) rfl)
        replace HT := zaa.mk (zaH HT6.out (p := ⟨g6, 0, none⟩) (by show _ ≠ g6; omega) (.slice (some ⟨g2, 0, none⟩) (l.length + 1) c2))
        replace HV := zaa.mk (zaH HV6.out (p := ⟨g6, 0, none⟩) (by show _ ≠ g6; omega) (.slice (some ⟨g2, 0, none⟩) (l.length + 1) c2))
        replace HU := HU7
        replace HB := zaa.mk (HB6.out.setCell (p := ⟨g6, 0, none⟩) (by show _ ≤ g6; omega) (.slice (some ⟨g2, 0, none⟩) (l.length + 1) c2))
        have HS7 := zaa.mk (Kd.S_set HS6.out HU6.out (by decide) 0 (.slice (some ⟨g2, 0, none⟩) (l.length + 1) c2))
        rw [← HN6.out.1] at HS7
        replace HS := HS7
        clear HT6 HV6 HU6 HU7 HB6 HS6 HS7
        refine (zb1.calls k _ w.heap.size g2 c2 (l.length + 1) (fun q => q ≠ w.heap.size ∧ q ≠ w.heap.size + 1 ∧ q ≠ g6) (newN l l.length kind target now) HN6.out.2 d s (l.length : Int) now HS.out HG.out.d0 (by have := HG.out.d1; rwa [HN6.out.2] at this) HG.out.n0 (by have := HG.out.n1; rwa [HN6.out.2] at this) (fun q hq => ⟨by have := zaF HT.out; omega, by have := zaF HV.out; omega, by have := zaF HU.out; omega⟩) HB.out.size HG.out.len HG.out.copy).mono ?_
        rintro e' w7 ⟨rfl, hS7, hb7, ho7⟩
        replace HT := zaa.mk ((ho7 w.heap.size (zaF HT.out) (by simp)).trans HT.out)
        replace HV := zaa.mk ((ho7 (w.heap.size + 1) (zaF HV.out) (by simp)).trans HV.out)
        replace HU := zaa.mk ((ho7 g6 (zaF HU.out) (by simp)).trans HU.out)
        replace HB := zaa.mk (HB.out.trans hb7)
        replace HS := zaa.mk hS7
        clear ho7 hb7 hS7
        have hu7 := zat HU.out
        have hv7 := zat HV.out
        have hvf7 := zae HV.out 0
        go_wp2_with fail
        refine bodyPost_ret (zbd rfl _ _ (w.heap.size + 1) 24 #[.slice (some ⟨g2, 0, none⟩) (l.length + 1) c2] (0, 0) _ rfl (zaJ HV.out 0 _ rfl) Tryz.underlying24 rfl (by kernel_rfl)) rfl ?_
        have hs := Kd.S_set HS.out HV.out (by decide) 0 (.slice (some ⟨g2, 0, none⟩) (l.length + 1) c2)
        rw [← HRR.out] at hs
        have hlr : r.length = (l.length + 1) := by rw [HRR.out]; unfold zbK putN; rw [List.length_set, List.length_set]; exact HN6.out.2
        rw [← hlr] at hs ⊢
        exact ⟨_, _, rfl, Kd.zbn hs (fun _ _ => trivial), HB.out.setCell (p := ⟨w.heap.size + 1, 0, none⟩) (by show _ ≤ _ + 1; omega) _⟩
   ·rw [if_neg z] at hE; exact absurd (Option.some.inj hE) z
  ·rw [if_neg z] at hE; exact absurd (Option.some.inj hE) z
def MakeNo (k : Nat) (l : List S40) (d : Int) (s : ByteArray) (kind : Int) (target : ByteArray) (e : Int) : Prop :=
 (kindB kind target = true ∧ e = 100) ∨ ((1 ≤ kind ∧ kind ≤ 3 ∧ (kind ≠ 3 → target.toList = ([] : List UInt8))) ∧ ((zcp k l d s kind target = some e ∧ e ≠ 0) ∨ (zcp k l d s kind target = some 0 ∧ PlaceG l 64 ∧ e = 51)))
structure MakeYes (k : Nat) (l : List S40) (d : Int) (s : ByteArray) (kind : Int) (target : ByteArray) (now : Int) (n : Nat) (r : List S40) : Prop where
 k1 : 1 ≤ kind
 k3 : kind ≤ 3
 kt : kind ≠ 3 → target.toList = ([] : List UInt8)
 hE : zcp k l d s kind target = some 0
 hp : PlaceG l n
 ne : n ≠ 64
 hg : PutG k (newN l n kind target now) d s (n : Int)
 hd : d < (l.length : Int)
 hr : r = zbK (putN (newN l n kind target now) d s (n : Int) now) (n : Int) 1
theorem zbg.nos (k : Nat) (A0 : Option Addr) (c0 : Nat) (l : List S40) (d : Int) (s : ByteArray) (kind : Int) (target : ByteArray) (now : Int) (e : Int) (w : World) (hr0 : Kd.C k40 w A0 l.length l) (hc0 : l.length ≤ c0) (h : MakeNo k l d s kind target e) :
  Calls Tryz.prog 53 #[.agg #[.slice A0 l.length c0], .int .i64 d, .string s, .int .i64 kind, .string target, .int .i64 now] w fun e' w' => e' = .returned (.tuple #[.agg #[.slice A0 l.length c0], .int .i64 0, .int .i64 e]) ∧ Below w.heap.size w w' := by
 rcases h with ⟨h1, rfl⟩ | ⟨⟨h1, h2, h3⟩, ⟨h4, h5⟩ | ⟨h4, h5, rfl⟩⟩
 ·exact zbg.form k A0 c0 l d s kind target now w hr0 hc0 h1
 ·exact zbg.no k A0 c0 l d s kind target now w hr0 hc0 h1 h2 h3 e h4 h5
 ·exact zbg.full k A0 c0 l d s kind target now w hr0 hc0 h1 h2 h3 64 h4 h5 rfl
theorem zbg.oks (k : Nat) (A0 : Option Addr) (c0 : Nat) (l : List S40) (d : Int) (s : ByteArray) (kind : Int) (target : ByteArray) (now : Int) (n : Nat) (r : List S40) (w : World) (hr0 : Kd.C k40 w A0 l.length l) (hc0 : l.length ≤ c0) (hcp : zaX.f k l = some l) (h : MakeYes k l d s kind target now n r) :
  Calls Tryz.prog 53 #[.agg #[.slice A0 l.length c0], .int .i64 d, .string s, .int .i64 kind, .string target, .int .i64 now] w fun e' w' => ∃ (A : Option Addr) (c : Nat), e' = .returned (.tuple #[.agg #[.slice A r.length c], .int .i64 n, .int .i64 0]) ∧ Kd.S k40 40 w' w.heap.size (fun _ => True) (.slice A r.length c) r ∧ Below w.heap.size w w' :=
 zbg.ok k A0 c0 l d s kind target now w hr0 hc0 h.k1 h.k3 h.kt n h.hE h.hp r h.ne hcp h.hg h.hd h.hr
end Go.Proofs.YtjghephnjkffcaaGreat.PAll
