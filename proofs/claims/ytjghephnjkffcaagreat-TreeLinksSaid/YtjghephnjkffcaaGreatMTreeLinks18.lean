/- Parts of one proof, merged by a program of this repo: walks over the given program and plain facts. -/
import Derived.Test.YtjghephnjkffcaaGreatMTreeLinks11
import Derived.Test.YtjghephnjkffcaaGreatMTreeLinks12
import Derived.Test.YtjghephnjkffcaaGreatMTreeLinks13
import Derived.Test.YtjghephnjkffcaaGreatMTreeLinks14
import Derived.Test.YtjghephnjkffcaaGreatMTreeLinks15
import Derived.Test.YtjghephnjkffcaaGreatMTreeLinks16
import Derived.Test.YtjghephnjkffcaaGreatMTreeLinks17
import Derived.Test.YtjghephnjkffcaaGreatMTreeLinks4
import Derived.Test.YtjghephnjkffcaaGreatMTreeLinks8
import Derived.Test.YtjghephnjkffcaaGreatMTreeLinks10
import Derived.Test.YtjghephnjkffcaaGreatMTreeLinks5
import Derived.Test.YtjghephnjkffcaaGreatMTreeLinks2
namespace Go.Proofs.YtjghephnjkffcaaGreat.PAll
open Go.RowKit Go.Proofs.YtjghephnjkffcaaGreatW.PrintWords Go.Proofs.YtjghephnjkffcaaGreatW.PrintLast Go.Proofs.YtjghephnjkffcaaGreatW.PrintMore
attribute [local go_sem] zbQ zbO zb6 zb5 zbD zbC zbP zbN
set_option linter.unusedVariables false
set_option linter.unusedSimpArgs false
set_option maxHeartbeats 8000000 in
set_option maxRecDepth 100000 in
theorem zbi.link (k : Nat) (A0 : Option Addr) (c0 : Nat) (l : List S40) (a : S44) (AB : Option Addr) (cB : Nat) (w : World) (hr0 : Kd.C k40 w A0 l.length l) (hc0 : l.length ≤ c0)
  (m tm b1 b2 : Bool) (r1 : List S40) (e : Int) (hcp : zaV.f k l = some l) (hmy : zar.f k l = some m) (htm : zaX.f a.f11 = some tm) (hb1 : zaU.f l a.f1 = some b1) (hb2 : zaU.f l a.f2 = some b2) (heq : zaL.f k l l = some true) (hno : (m && (tm && (b1 && b2))) = false → e = 100 ∧ r1 = if m = true then l else []) (hrf : (m && (tm && (b1 && b2))) = true → refLinkE k l a.f1 a.f2 a.f4 = some e ∧ (e ≠ 0 → r1 = l) ∧ (e = 0 → PutG k l a.f2 a.f4 a.f1 ∧ r1 = zb7 (putN l a.f2 a.f4 a.f1 a.f11) a.f1 1)) (hft : zbu.f k l a.f1 a.f2 a.f4 a.f11 = some (r1, e)) (hto : za5.f k r1 e r1 e = some true) (hsp : (∀ x ∈ r1, zaM.f k x.f1 = some ()) ∧ r1.length ≤ 1000000 ∧ ∀ x ∈ r1, x.f2.length ≤ 1000000) :
  Calls Tryz.prog 19 #[.agg #[.slice A0 l.length c0], .agg #[.int .i64 4, .int .i64 a.f1, .int .i64 a.f2, .int .i64 a.f3, .string a.f4, .string a.f5, .int .i64 a.f6, .bool a.f7, .int .i64 a.f8, .int .i64 a.f9, .slice AB a.f10.length cB, .int .i64 a.f11]] w fun e' w' => (∃ (A : Option Addr) (q c : Nat), e' = .returned (.tuple #[.agg #[.slice A q c], .bool true])) ∧ Below w.heap.size w w' := by
 cases m with
 | false =>
  obtain ⟨rfl, hr⟩ := hno (by first | rfl | simp)
  subst hr
  exact zbi.linka k A0 c0 l a AB cB w hr0 hc0 tm b1 b2 hcp hmy htm hb1 hb2 heq hft hto hsp
 | true =>
  cases tm with
  | false =>
   obtain ⟨rfl, hr⟩ := hno (by first | rfl | simp)
   replace hr : r1 = l := hr
   rw [hr] at hft hto hsp
   exact zbi.linkb k A0 c0 l a AB cB w hr0 hc0 b1 b2 hcp hmy htm hb1 hb2 heq hft hto hsp
  | true =>
   cases b1 with
   | false =>
    obtain ⟨rfl, hr⟩ := hno (by first | rfl | simp)
    replace hr : r1 = l := hr
    rw [hr] at hft hto hsp
    exact zbi.linkc k A0 c0 l a AB cB w hr0 hc0 b2 hcp hmy htm hb1 hb2 heq hft hto hsp
   | true =>
    cases b2 with
    | false =>
     obtain ⟨rfl, hr⟩ := hno (by first | rfl | simp)
     replace hr : r1 = l := hr
     rw [hr] at hft hto hsp
     exact zbi.linkd k A0 c0 l a AB cB w hr0 hc0 hcp hmy htm hb1 hb2 heq hft hto hsp
    | true =>
     obtain ⟨h1, h2, h3⟩ := hrf (by first | rfl | simp)
     by_cases z : e = 0
     ·subst z
      exact zbi.linkf k A0 c0 l a AB cB w hr0 hc0 r1 hcp hmy htm hb1 hb2 heq h1 (h3 rfl) hft hto hsp
     ·rw [h2 z] at hft hto hsp
      exact zbi.linke k A0 c0 l a AB cB w hr0 hc0 e hcp hmy htm hb1 hb2 heq z h1 hft hto hsp
end Go.Proofs.YtjghephnjkffcaaGreat.PAll
