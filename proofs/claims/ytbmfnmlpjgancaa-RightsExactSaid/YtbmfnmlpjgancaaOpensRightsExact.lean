/- What the row's reading says of the argument of RightsExact: its kind and its bounds. Written by lawrow.py of this repo. -/
import Derived.Test.YtbmfnmlpjgancaaPRightsExactx0
import Derived.Test.YtbmfnmlpjgancaaWOpens
import Derived.KernelRfl
namespace Go.Proofs.Ytbmfnmlpjgancaa.PRightsExact
open Go.RowKit Go.Proofs.YtbmfnmlpjgancaaW.PrintWords Go.Proofs.YtbmfnmlpjgancaaW.PrintLast Go.Proofs.YtbmfnmlpjgancaaW.Opens
def ok24 (x : S24) : Prop := (Lit.int .i64 x.f0).wf = true ∧ (Lit.int .i64 x.f1).wf = true ∧ (Lit.int .i64 x.f2).wf = true ∧ (Lit.int .i64 x.f3).wf = true
theorem opens24 {H : Type} {enc : TypeId × Value → H} {w : World} : Opens enc Try.prog w 24 k24 ok24 :=
  opens_iso (opens_struct Try.underlying24 (by kernel_rfl) (opensF_cons rfl (by kernel_rfl) (opens_int Try.underlying2) (opensF_cons rfl (by kernel_rfl) (opens_int Try.underlying2) (opensF_cons rfl (by kernel_rfl) (opens_int Try.underlying3) (opensF_one rfl (by kernel_rfl) (opens_int Try.underlying3)))))) (fun y => ⟨y.1, y.2.1, y.2.2.1, y.2.2.2⟩) (fun _ => rfl)
def ok22 (l : List (S24)) : Prop := l.length ≤ maxLen ∧ l.length * 32 ≤ 140737488351232 ∧ ∀ x ∈ l, ok24 x
theorem opens22 {H : Type} {enc : TypeId × Value → H} {w : World} : Opens enc Try.prog w 22 (Kd.slice 24 k24) ok22 :=
  opens_slice Try.underlying22 (by kernel_rfl) (by kernel_rfl) opens24
end Go.Proofs.Ytbmfnmlpjgancaa.PRightsExact
