/- Parts of one proof, merged by a program of this repo: walks over the given program and plain facts. -/
import Derived.Test.YtjghephnjkffcaaGreatMTreeReads12
import Derived.Test.YtjghephnjkffcaaGreatMTreeReads13
import Derived.Test.YtjghephnjkffcaaGreatMTreeReads14
import Derived.Test.YtjghephnjkffcaaGreatMTreeReads15
import Derived.Test.YtjghephnjkffcaaGreatMTreeReads16
import Derived.Test.YtjghephnjkffcaaGreatMTreeReads4
import Derived.Test.YtjghephnjkffcaaGreatMTreeReads8
import Derived.Test.YtjghephnjkffcaaGreatMTreeReads11
import Derived.Test.YtjghephnjkffcaaGreatMTreeReads5
import Derived.Test.YtjghephnjkffcaaGreatMTreeReads2
namespace Go.Proofs.YtjghephnjkffcaaGreat.PAll
open Go.RowKit Go.Proofs.YtjghephnjkffcaaGreatW.PrintWords Go.Proofs.YtjghephnjkffcaaGreatW.PrintLast Go.Proofs.YtjghephnjkffcaaGreatW.PrintMore
attribute [local go_sem] zbN zbL zb5 zb4 zbB zbA zbM zbK
set_option linter.unusedVariables false
set_option linter.unusedSimpArgs false
theorem zbb.read (k : Nat) (A0 : Option Addr) (c0 : Nat) (l : List S40) (a : S44) (AB : Option Addr) (cB : Nat) (w : World) (hr0 : Kd.C k40 w A0 l.length l) (hc0 : l.length ≤ c0)
  (m tm b1 b2 : Bool) (rb : List Int) (e : Int) (hcp : za2.f k l = some l) (hmy : zar.f k l = some m) (htm : zaX.f a.f11 = some tm) (hb1 : zaT.f l a.f1 = some b1) (hb2 : zaT.f l a.f2 = some b2) (heq : za6.f k l l = some true)
  (hno : (m && b1) = false → rb = [] ∧ e = 100) (hrf : (m && b1) = true → zbg.f k l a.f1 a.f8 a.f9 = some (rb, e)) (hft : zby.f k l a.f1 a.f8 a.f9 = some (rb, e)) (heb : zaz.f k rb rb = some true) (hby : zaE.f k rb = some ()) :
  Calls Tryz.prog 19 #[.agg #[.slice A0 l.length c0], .agg #[.int .i64 8, .int .i64 a.f1, .int .i64 a.f2, .int .i64 a.f3, .string a.f4, .string a.f5, .int .i64 a.f6, .bool a.f7, .int .i64 a.f8, .int .i64 a.f9, .slice AB a.f10.length cB, .int .i64 a.f11]] w fun e' w' => (∃ (A : Option Addr) (q c : Nat), e' = .returned (.tuple #[.agg #[.slice A q c], .bool true])) ∧ Below w.heap.size w w' := by
 cases m with
 | false =>
  obtain ⟨rfl, rfl⟩ := hno rfl
  exact zbb.reada k A0 c0 l a AB cB w hr0 hc0 b2 tm b1 hcp hmy htm hb1 hb2 heq hft heb hby
 | true =>
  cases tm with
  | false =>
   cases b1 with
   | false =>
    obtain ⟨rfl, rfl⟩ := hno rfl
    exact zbb.readb k A0 c0 l a AB cB w hr0 hc0 b2 hcp hmy htm hb1 hb2 heq hft heb hby
   | true => exact zbb.readc k A0 c0 l a AB cB w hr0 hc0 b2 rb e hcp hmy htm hb1 hb2 heq (hrf rfl) hft heb hby
  | true =>
   cases b1 with
   | false =>
    obtain ⟨rfl, rfl⟩ := hno rfl
    exact zbb.readd k A0 c0 l a AB cB w hr0 hc0 b2 hcp hmy htm hb1 hb2 heq hft heb hby
   | true => exact zbb.reade k A0 c0 l a AB cB w hr0 hc0 b2 rb e hcp hmy htm hb1 hb2 heq (hrf rfl) hft heb hby
end Go.Proofs.YtjghephnjkffcaaGreat.PAll
