/- Parts of one proof, merged by a program of this repo: walks over the given program and plain facts. -/
import Derived.Test.YtjghephnjkffcaaGreatMTreeFinds12
import Derived.Test.YtjghephnjkffcaaGreatMTreeFinds13
import Derived.Test.YtjghephnjkffcaaGreatMTreeFinds14
import Derived.Test.YtjghephnjkffcaaGreatMTreeFinds15
import Derived.Test.YtjghephnjkffcaaGreatMTreeFinds16
import Derived.Test.YtjghephnjkffcaaGreatMTreeFinds4
import Derived.Test.YtjghephnjkffcaaGreatMTreeFinds8
import Derived.Test.YtjghephnjkffcaaGreatMTreeFinds11
import Derived.Test.YtjghephnjkffcaaGreatMTreeFinds10
import Derived.Test.YtjghephnjkffcaaGreatMTreeFinds5
import Derived.Test.YtjghephnjkffcaaGreatMTreeFinds2
namespace Go.Proofs.YtjghephnjkffcaaGreat.PAll
open Go.RowKit Go.Proofs.YtjghephnjkffcaaGreatW.PrintWords Go.Proofs.YtjghephnjkffcaaGreatW.PrintLast Go.Proofs.YtjghephnjkffcaaGreatW.PrintMore
attribute [local go_sem] zbP zbN zb3 zb2 zbE zbD zbO zbM
set_option linter.unusedVariables false
set_option linter.unusedSimpArgs false
theorem zbf.find (k : Nat) (A0 : Option Addr) (c0 : Nat) (l : List S40) (a : S44) (AB : Option Addr) (cB : Nat) (w : World) (hr0 : Kd.C k40 w A0 l.length l) (hc0 : l.length ≤ c0)
  (m tm b1 b2 : Bool) (n e : Int) (hcp : za4.f k l = some l) (hmy : zar.f k l = some m) (htm : zaT.f a.f11 = some tm) (hb1 : zaO.f l a.f1 = some b1) (hb2 : zaO.f l a.f2 = some b2) (heq : za7.f k l l = some true)
  (hno : (m && b2) = false → n = 0 ∧ e = 100) (hrf : (m && b2) = true → zbe.f k l a.f2 a.f4 = some (n, e)) (hft : zbC.f k l a.f2 a.f4 = some (n, e)) :
  Calls Tryz.prog 19 #[.agg #[.slice A0 l.length c0], .agg #[.int .i64 11, .int .i64 a.f1, .int .i64 a.f2, .int .i64 a.f3, .string a.f4, .string a.f5, .int .i64 a.f6, .bool a.f7, .int .i64 a.f8, .int .i64 a.f9, .slice AB a.f10.length cB, .int .i64 a.f11]] w fun e' w' => (∃ (A : Option Addr) (q c : Nat), e' = .returned (.tuple #[.agg #[.slice A q c], .bool true])) ∧ Below w.heap.size w w' := by
 cases m with
 | false =>
  obtain ⟨rfl, rfl⟩ := hno rfl
  exact zbf.finda k A0 c0 l a AB cB w hr0 hc0 b1 tm b2 hcp hmy htm hb1 hb2 heq hft
 | true =>
  cases tm with
  | false =>
   cases b2 with
   | false =>
    obtain ⟨rfl, rfl⟩ := hno rfl
    exact zbf.findb k A0 c0 l a AB cB w hr0 hc0 b1 hcp hmy htm hb1 hb2 heq hft
   | true => exact zbf.findc k A0 c0 l a AB cB w hr0 hc0 b1 n e hcp hmy htm hb1 hb2 heq (hrf rfl) hft
  | true =>
   cases b2 with
   | false =>
    obtain ⟨rfl, rfl⟩ := hno rfl
    exact zbf.findd k A0 c0 l a AB cB w hr0 hc0 b1 hcp hmy htm hb1 hb2 heq hft
   | true => exact zbf.finde k A0 c0 l a AB cB w hr0 hc0 b1 n e hcp hmy htm hb1 hb2 heq (hrf rfl) hft
end Go.Proofs.YtjghephnjkffcaaGreat.PAll
