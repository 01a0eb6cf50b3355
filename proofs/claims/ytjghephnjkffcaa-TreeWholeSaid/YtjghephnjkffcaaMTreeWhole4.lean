/- Parts of one proof, merged by a program of this repo: walks over the given program and plain facts. -/
import Derived.Test.YtjghephnjkffcaaProg
import Derived.Below
import Derived.Deep.Draws
import Derived.Deep.AppendLies
import Derived.Maps.AppendAt
import Derived.OwnWalk
import Derived.Laws.BytesArg
import Derived.Laws.MakeOwn
import Derived.Laws.OwnMore
import Derived.Deep.OwnRows
import Derived.Tactics
import Derived.Lib.ConvBytes
import Derived.Laws.Slices
import Derived.WalkKit
import Derived.KernelRfl
import Derived.RowKit3
import Derived.Deep.LoopGhost
import Derived.Deep.QuietTactic
import Derived.BigQuiet
import Derived.WideLaws
import Derived.Deep.DeepCutAuto
import Derived.Deep.CutBlock
import Derived.Deep.RegionHeld3
import Derived.Laws.Rows
import Derived.Lib.AppendStr
import Derived.ArgAppend
import Derived.Laws.IdiomCopy
import Derived.OrdersHeld
import Derived.Laws.BitsLemmas
import Derived.RowKit
import Derived.WalkSpells
import Derived.WalkLawsBesides
import Derived.Test.YtjghephnjkffcaaMTreeWhole3
import Derived.Test.YtjghephnjkffcaaMTreeWhole2
import Derived.Test.YtjghephnjkffcaaMTreeWhole1
import Derived.SizedLaws
import Derived.ChangeSlices
import Derived.ChangeArms
import Derived.Deep.Slices
import Derived.DataReads
namespace Go.Proofs.Ytjghephnjkffcaa.PCk
open Go.RowKit Go.Proofs.YtjghephnjkffcaaW.PrintWords Go.Proofs.YtjghephnjkffcaaW.PrintLast Go.Proofs.YtjghephnjkffcaaW.PrintMore
attribute [local go_sem] zbV zbT zci zch zbG zbF zbU zbS
set_option linter.unusedVariables false
set_option linter.unusedSimpArgs false
def errW : Option Int → Value
 | none => .nilIface
 | some c => .iface 0 (.int .i64 c)
theorem zas : errW none = .nilIface := rfl
theorem zar (c : Int) : errW (some c) = .iface 0 (.int .i64 c) := rfl
theorem info3 : (Try.prog.info? 3).map (fun i => (i.zero, i.size, i.bytes)) = some (some (.int .i64 0), 1, 8) := by kernel_rfl
theorem info5 : (Try.prog.info? 5).map (fun i => (i.zero, i.size, i.bytes)) = some (some (.int .u8 0), 1, 1) := by kernel_rfl
theorem info45 : (Try.prog.info? 45).map (fun i => (i.zero, i.size, i.bytes)) = some (some (.agg #[(.int .i64 0), (.slice none 0 0), (.slice none 0 0), (.string ⟨#[]⟩), (.int .i64 0), (.int .i64 0)]), 6, 88) := by kernel_rfl
theorem info66 : (Try.prog.info? 66).map (fun i => (i.zero, i.size, i.bytes)) = some (some (.agg #[(.string ⟨#[]⟩), (.int .i64 0)]), 2, 24) := by kernel_rfl
structure S66 where
 f0 : ByteArray
 f1 : Int
def z66 : S66 := ⟨(⟨#[]⟩ : ByteArray), (0 : Int)⟩
def k66 : Kd S66 := Kd.iso (Kd.pair Kd.string (Kd.int .i64)) (fun x : S66 => (x.f0, x.f1))
theorem k66_open {w : World} {x : S66} {cs : List Value} (h : k66.K w x cs) : cs = [.string x.f0, .int .i64 x.f1] := by
 obtain ⟨_, _, rfl, rfl, rfl⟩ := h
 exact rfl
theorem k66_openM {w : World} {base : Nat} {ok : Nat → Prop} {x : S66} {cs : List Value} (h : k66.M w base ok x cs) : cs = [.string x.f0, .int .i64 x.f1] := by
 obtain ⟨_, _, rfl, rfl, rfl⟩ := h
 exact rfl
theorem k66_mkM (w : World) (base : Nat) (ok : Nat → Prop) (x : S66)  : k66.M w base ok x [.string x.f0, .int .i64 x.f1] := ⟨[.string x.f0], [.int .i64 x.f1], rfl, rfl, rfl⟩
def zat (xs : List S66) (i : Int) : S66 := xs.getD i.toNat z66
theorem zce {w : World} {A : Option Addr} {n : Nat} {xs : List S66} (h : Kd.C k66 w A n xs) (i : Int) (h0 : 0 ≤ i) (h1 : i < n) : ∃ ad , A = some ad ∧ w.cell? (ad.add (i.toNat * 2)) = some (.string (zat xs i).f0) ∧ w.cell? ⟨(ad.add (i.toNat * 2)).block, (ad.add (i.toNat * 2)).off + 1, none⟩ = some (.int .i64 (zat xs i).f1) := by
 obtain ⟨ad, c, e, _, hK, hc0⟩ := Kd.C_get h z66 i h0 h1
 have hc : ∀ j u, c[j]? = some u → w.cell? (ad.add (i.toNat * 2 + j)) = some u := hc0
 obtain rfl := k66_open hK
 exact ⟨ad, e, hc 0 _ rfl, by rw [← zbA _ _ 1 (by omega)]; exact hc 1 _ rfl⟩
structure S45 where
 f0 : Int
 f1 : (List Int)
 f2 : (List S66)
 f3 : ByteArray
 f4 : Int
 f5 : Int
def z45 : S45 := ⟨(0 : Int), ([] : List Int), ([] : List S66), (⟨#[]⟩ : ByteArray), (0 : Int), (0 : Int)⟩
def k45 : Kd S45 := Kd.iso (Kd.pair (Kd.int .i64) (Kd.pair (Kd.slice 5 (Kd.int .u8)) (Kd.pair (Kd.slice 66 k66) (Kd.pair Kd.string (Kd.pair (Kd.int .i64) (Kd.int .i64)))))) (fun x : S45 => (x.f0, x.f1, x.f2, x.f3, x.f4, x.f5))
theorem k45_open {w : World} {x : S45} {cs : List Value} (h : k45.K w x cs) : ∃ A1 c1 A2 c2, cs = [.int .i64 x.f0, .slice A1 x.f1.length c1, .slice A2 x.f2.length c2, .string x.f3, .int .i64 x.f4, .int .i64 x.f5] ∧ x.f1.length ≤ c1 ∧ (Kd.int .u8).C w A1 x.f1.length x.f1 ∧ x.f2.length ≤ c2 ∧ k66.C w A2 x.f2.length x.f2 := by
 obtain ⟨_, _, rfl, rfl, ⟨_, _, rfl, ⟨A1, c1, rfl, l1, g1⟩, ⟨_, _, rfl, ⟨A2, c2, rfl, l2, g2⟩, ⟨_, _, rfl, rfl, ⟨_, _, rfl, rfl, rfl⟩⟩⟩⟩⟩ := h
 exact ⟨A1, c1, A2, c2, rfl, l1, g1, l2, g2⟩
theorem k45_openM {w : World} {base : Nat} {ok : Nat → Prop} {x : S45} {cs : List Value} (h : k45.M w base ok x cs) : ∃ v1 v2, cs = [.int .i64 x.f0, v1, v2, .string x.f3, .int .i64 x.f4, .int .i64 x.f5] ∧ (Kd.int .u8).R 5 w base ok v1 x.f1 ∧ k66.R 66 w base ok v2 x.f2 := by
 obtain ⟨_, _, rfl, rfl, ⟨_, _, rfl, ⟨v1, rfl, g1⟩, ⟨_, _, rfl, ⟨v2, rfl, g2⟩, ⟨_, _, rfl, rfl, ⟨_, _, rfl, rfl, rfl⟩⟩⟩⟩⟩ := h
 exact ⟨v1, v2, rfl, g1, g2⟩
theorem k45_mkM (w : World) (base : Nat) (ok : Nat → Prop) (x : S45) {v1 : Value} (g1 : (Kd.int .u8).R 5 w base ok v1 x.f1) {v2 : Value} (g2 : k66.R 66 w base ok v2 x.f2) : k45.M w base ok x [.int .i64 x.f0, v1, v2, .string x.f3, .int .i64 x.f4, .int .i64 x.f5] := ⟨[.int .i64 x.f0], [v1, v2, .string x.f3, .int .i64 x.f4, .int .i64 x.f5], rfl, rfl, ⟨[v1], [v2, .string x.f3, .int .i64 x.f4, .int .i64 x.f5], rfl, ⟨v1, rfl, g1⟩, ⟨[v2], [.string x.f3, .int .i64 x.f4, .int .i64 x.f5], rfl, ⟨v2, rfl, g2⟩, ⟨[.string x.f3], [.int .i64 x.f4, .int .i64 x.f5], rfl, rfl, ⟨[.int .i64 x.f4], [.int .i64 x.f5], rfl, rfl, rfl⟩⟩⟩⟩⟩
def zae (xs : List S45) (i : Int) : S45 := xs.getD i.toNat z45
theorem zbn {w : World} {A : Option Addr} {n : Nat} {xs : List S45} (h : Kd.C k45 w A n xs) (i : Int) (h0 : 0 ≤ i) (h1 : i < n) : ∃ ad A1 c1 A2 c2, A = some ad ∧ w.cell? (ad.add (i.toNat * 6)) = some (.int .i64 (zae xs i).f0) ∧ w.cell? ⟨(ad.add (i.toNat * 6)).block, (ad.add (i.toNat * 6)).off + 1, none⟩ = some (.slice A1 (zae xs i).f1.length c1) ∧ w.cell? ⟨(ad.add (i.toNat * 6)).block, (ad.add (i.toNat * 6)).off + 2, none⟩ = some (.slice A2 (zae xs i).f2.length c2) ∧ w.cell? ⟨(ad.add (i.toNat * 6)).block, (ad.add (i.toNat * 6)).off + 3, none⟩ = some (.string (zae xs i).f3) ∧ w.cell? ⟨(ad.add (i.toNat * 6)).block, (ad.add (i.toNat * 6)).off + 4, none⟩ = some (.int .i64 (zae xs i).f4) ∧ w.cell? ⟨(ad.add (i.toNat * 6)).block, (ad.add (i.toNat * 6)).off + 5, none⟩ = some (.int .i64 (zae xs i).f5) ∧ (zae xs i).f1.length ≤ c1 ∧ (Kd.int .u8).C w A1 (zae xs i).f1.length (zae xs i).f1 ∧ (zae xs i).f2.length ≤ c2 ∧ k66.C w A2 (zae xs i).f2.length (zae xs i).f2 := by
 obtain ⟨ad, c, e, _, hK, hc0⟩ := Kd.C_get h z45 i h0 h1
 have hc : ∀ j u, c[j]? = some u → w.cell? (ad.add (i.toNat * 6 + j)) = some u := hc0
 obtain ⟨A1, c1, A2, c2, rfl, l1, g1, l2, g2⟩ := k45_open hK
 exact ⟨ad, A1, c1, A2, c2, e, hc 0 _ rfl, by rw [← zbA _ _ 1 (by omega)]; exact hc 1 _ rfl, by rw [← zbA _ _ 2 (by omega)]; exact hc 2 _ rfl, by rw [← zbA _ _ 3 (by omega)]; exact hc 3 _ rfl, by rw [← zbA _ _ 4 (by omega)]; exact hc 4 _ rfl, by rw [← zbA _ _ 5 (by omega)]; exact hc 5 _ rfl, l1, g1, l2, g2⟩
structure S38 where
 f0 : Int
 f1 : Int
 f2 : Int
 f3 : Int
 f4 : ByteArray
 f5 : ByteArray
 f6 : Int
 f7 : Bool
 f8 : Int
 f9 : Int
 f10 : (List Int)
 f11 : Int
def z38 : S38 := ⟨(0 : Int), (0 : Int), (0 : Int), (0 : Int), (⟨#[]⟩ : ByteArray), (⟨#[]⟩ : ByteArray), (0 : Int), false, (0 : Int), (0 : Int), ([] : List Int), (0 : Int)⟩
def k38 : Kd S38 := Kd.iso (Kd.pair (Kd.int .i64) (Kd.pair (Kd.int .i64) (Kd.pair (Kd.int .i64) (Kd.pair (Kd.int .i64) (Kd.pair Kd.string (Kd.pair Kd.string (Kd.pair (Kd.int .i64) (Kd.pair Kd.bool (Kd.pair (Kd.int .i64) (Kd.pair (Kd.int .i64) (Kd.pair (Kd.slice 5 (Kd.int .u8)) (Kd.int .i64)))))))))))) (fun x : S38 => (x.f0, x.f1, x.f2, x.f3, x.f4, x.f5, x.f6, x.f7, x.f8, x.f9, x.f10, x.f11))
theorem k38_open {w : World} {x : S38} {cs : List Value} (h : k38.K w x cs) : ∃ A10 c10, cs = [.int .i64 x.f0, .int .i64 x.f1, .int .i64 x.f2, .int .i64 x.f3, .string x.f4, .string x.f5, .int .i64 x.f6, .bool x.f7, .int .i64 x.f8, .int .i64 x.f9, .slice A10 x.f10.length c10, .int .i64 x.f11] ∧ x.f10.length ≤ c10 ∧ (Kd.int .u8).C w A10 x.f10.length x.f10 := by
 obtain ⟨_, _, rfl, rfl, ⟨_, _, rfl, rfl, ⟨_, _, rfl, rfl, ⟨_, _, rfl, rfl, ⟨_, _, rfl, rfl, ⟨_, _, rfl, rfl, ⟨_, _, rfl, rfl, ⟨_, _, rfl, rfl, ⟨_, _, rfl, rfl, ⟨_, _, rfl, rfl, ⟨_, _, rfl, ⟨A10, c10, rfl, l10, g10⟩, rfl⟩⟩⟩⟩⟩⟩⟩⟩⟩⟩⟩ := h
 exact ⟨A10, c10, rfl, l10, g10⟩
def zax (xs : List S38) (i : Int) : S38 := xs.getD i.toNat z38
theorem at_T38 {w : World} {A : Option Addr} {n : Nat} {xs : List S38} (h : Kd.C k38 w A n xs) (i : Int) (h0 : 0 ≤ i) (h1 : i < n) : ∃ ad A10 c10, A = some ad ∧ w.cell? (ad.add (i.toNat * 12)) = some (.int .i64 (zax xs i).f0) ∧ w.cell? ⟨(ad.add (i.toNat * 12)).block, (ad.add (i.toNat * 12)).off + 1, none⟩ = some (.int .i64 (zax xs i).f1) ∧ w.cell? ⟨(ad.add (i.toNat * 12)).block, (ad.add (i.toNat * 12)).off + 2, none⟩ = some (.int .i64 (zax xs i).f2) ∧ w.cell? ⟨(ad.add (i.toNat * 12)).block, (ad.add (i.toNat * 12)).off + 3, none⟩ = some (.int .i64 (zax xs i).f3) ∧ w.cell? ⟨(ad.add (i.toNat * 12)).block, (ad.add (i.toNat * 12)).off + 4, none⟩ = some (.string (zax xs i).f4) ∧ w.cell? ⟨(ad.add (i.toNat * 12)).block, (ad.add (i.toNat * 12)).off + 5, none⟩ = some (.string (zax xs i).f5) ∧ w.cell? ⟨(ad.add (i.toNat * 12)).block, (ad.add (i.toNat * 12)).off + 6, none⟩ = some (.int .i64 (zax xs i).f6) ∧ w.cell? ⟨(ad.add (i.toNat * 12)).block, (ad.add (i.toNat * 12)).off + 7, none⟩ = some (.bool (zax xs i).f7) ∧ w.cell? ⟨(ad.add (i.toNat * 12)).block, (ad.add (i.toNat * 12)).off + 8, none⟩ = some (.int .i64 (zax xs i).f8) ∧ w.cell? ⟨(ad.add (i.toNat * 12)).block, (ad.add (i.toNat * 12)).off + 9, none⟩ = some (.int .i64 (zax xs i).f9) ∧ w.cell? ⟨(ad.add (i.toNat * 12)).block, (ad.add (i.toNat * 12)).off + 10, none⟩ = some (.slice A10 (zax xs i).f10.length c10) ∧ w.cell? ⟨(ad.add (i.toNat * 12)).block, (ad.add (i.toNat * 12)).off + 11, none⟩ = some (.int .i64 (zax xs i).f11) ∧ (zax xs i).f10.length ≤ c10 ∧ (Kd.int .u8).C w A10 (zax xs i).f10.length (zax xs i).f10 := by
 obtain ⟨ad, c, e, _, hK, hc0⟩ := Kd.C_get h z38 i h0 h1
 have hc : ∀ j u, c[j]? = some u → w.cell? (ad.add (i.toNat * 12 + j)) = some u := hc0
 obtain ⟨A10, c10, rfl, l10, g10⟩ := k38_open hK
 exact ⟨ad, A10, c10, e, hc 0 _ rfl, by rw [← zbA _ _ 1 (by omega)]; exact hc 1 _ rfl, by rw [← zbA _ _ 2 (by omega)]; exact hc 2 _ rfl, by rw [← zbA _ _ 3 (by omega)]; exact hc 3 _ rfl, by rw [← zbA _ _ 4 (by omega)]; exact hc 4 _ rfl, by rw [← zbA _ _ 5 (by omega)]; exact hc 5 _ rfl, by rw [← zbA _ _ 6 (by omega)]; exact hc 6 _ rfl, by rw [← zbA _ _ 7 (by omega)]; exact hc 7 _ rfl, by rw [← zbA _ _ 8 (by omega)]; exact hc 8 _ rfl, by rw [← zbA _ _ 9 (by omega)]; exact hc 9 _ rfl, by rw [← zbA _ _ 10 (by omega)]; exact hc 10 _ rfl, by rw [← zbA _ _ 11 (by omega)]; exact hc 11 _ rfl, l10, g10⟩
end Go.Proofs.Ytjghephnjkffcaa.PCk
namespace Go.Proofs.YtjghephnjkffcaaW.Opens
open Go.ChangeShapes Go.WideShapes Go.RowKit Go.Proofs.YtjghephnjkffcaaW.PrintWords
section
variable {H : Type} (enc : TypeId × Value → H) (P : Program) (w : World)
def Opens (t : TypeId) {α : Type} (d : Kd α) (S : α → Prop) : Prop :=
 ∀ (base : Nat) (spare : Nat → Bool) (held : Bool) (fuel : Nat) (cs : List Value) (x : DataW H × List MemPlace),
  DataW.trod enc P w base spare held fuel t cs = some x → (∀ n ∈ x.1.weights P t, n ≤ reachBytes) → ∃ a : α, d.K w a cs ∧ S a
def OpensF (fs : List Field) (o : Nat) {α : Type} (d : Kd α) (S : α → Prop) : Prop :=
 ∀ (base : Nat) (spare : Nat → Bool) (held : Bool) (fuel : Nat) (cs : List Value) (xs : List (DataW H × List MemPlace)),
  xs.length = fs.length → (∀ (i : Nat) (f : Field), fs[i]? = some f → DataW.trod enc P w base spare held fuel f.type ((cs.drop f.offset).take (P.cellsOf f.type)) = xs[i]?) →
  (∀ n ∈ DataW.weightsEach P (fs.map (·.type)) (xs.map (·.1)), n ≤ reachBytes) → ∃ a : α, d.K w a ((cs.drop o).take d.sz) ∧ S a
end
section
variable {H : Type} {enc : TypeId × Value → H} {P : Program} {w : World} {t e : TypeId} {α β : Type} {d : Kd α} {S : α → Prop}
theorem zb3 {k : IntKind} (ht : P.underlying t = some (.int k)) : Opens enc P w t (Kd.int k) (fun n => (Lit.int k n).wf = true) := by
 intro base spare held fuel cs x h _
 obtain ⟨n, rfl, _, hw⟩ := DataW.trod_int ht h
 exact ⟨n, rfl, hw⟩
theorem opens_bool (ht : P.underlying t = some .bool) : Opens enc P w t Kd.bool (fun _ => True) := by
 intro base spare held fuel cs x h _
 obtain ⟨b, rfl, _⟩ := DataW.trod_bool ht h
 exact ⟨b, rfl, trivial⟩
theorem opens_string (ht : P.underlying t = some .string) : Opens enc P w t Kd.string (fun s => s.size ≤ 140737488351232) := by
 intro base spare held fuel cs x h hz
 obtain ⟨s, rfl, rfl, hs⟩ := DataW.trod_string ht h
 refine ⟨s, rfl, ?_⟩
 have h1 := hz s.data.toList.length (by simp [DataW.weights])
 have h2 : s.data.toList.length = s.size := by rw [Array.length_toList]; rfl
 rw [h2] at h1
 exact h1
theorem weights_all {ds : List (DataW H)} {y : DataW H} (hy : y ∈ ds) {n : Nat} (hn : n ∈ y.weights P e) : n ∈ DataW.weightsAll P e ds := by
 induction ds with
 | nil => cases hy
 | cons a r ih =>
  simp only [DataW.weightsAll, List.mem_append]
  rcases List.mem_cons.1 hy with rfl | h
  ·exact .inl hn
  ·exact .inr (ih h)
theorem opens_slice {B : Nat} (ht : P.underlying t = some (.slice e)) (hs : P.cellsOf e = d.sz) (hB : P.bytesOf e = B) (hd : Opens enc P w e d S) :
  Opens enc P w t (Kd.slice e d) (fun l => l.length ≤ maxLen ∧ l.length * B ≤ 140737488351232 ∧ ∀ x ∈ l, S x) := by
 intro base spare held fuel cs x h hz
 rcases Deep.open_slice ht h with ⟨rfl, rfl⟩ | ⟨a, len, cap, m, n, D, Pl, rfl, hb, hl, hm, hmm, rfl, hx⟩
 ·refine ⟨[], ⟨none, 0, rfl, Nat.le_refl _, rfl, by simp, fun h => absurd h (Nat.lt_irrefl _)⟩, by simp, by simp, by simp⟩
 ·have hlm : len ≤ m := by
   rw [hmm]
   split <;> omega
  have hw : ∀ i, i < len → ∀ n ∈ (D i).weights P e, n ≤ reachBytes := by
   intro i hi n hn
   refine hz n ?_
   simp only [DataW.weights, ht, List.mem_cons, List.mem_append]
   exact .inr (.inl (weights_all (List.mem_map.2 ⟨i, List.mem_range.2 hi, rfl⟩) hn))
  have hel : ∀ i, i < len → ∃ y : α, (∃ cs', w.cells? base (a.add (i * P.cellsOf e)) (P.cellsOf e) = some cs' ∧ d.K w y cs') ∧ S y := by
   intro i hi
   obtain ⟨cs', h1, h2⟩ := hx i (by omega)
   obtain ⟨y, hk, hS⟩ := hd base spare held n cs' _ h2 (hw i hi)
   exact ⟨y, ⟨cs', h1, hk⟩, hS⟩
  have hln : len ≤ 9223372036854775807 := by unfold maxLen at hm; omega
  by_cases h0 : len = 0
  ·subst h0
   refine ⟨[], ⟨some a, cap, rfl, by simp, rfl, by simp, fun h => absurd h (Nat.lt_irrefl _)⟩, by simp, by simp, by simp⟩
  ·obtain ⟨y0, _⟩ := hel 0 (by omega)
   haveI : Inhabited α := ⟨y0⟩
   obtain ⟨f, hf⟩ := Deep.choose_lt hel
   have hlen : ((List.range len).map f).length = len := by simp
   refine ⟨(List.range len).map f, ⟨some a, cap, by rw [hlen], by rw [hlen]; exact hl, hlen.trans hlen.symm |>.trans hlen |> fun _ => rfl, by rw [hlen]; exact hln, fun _ => ⟨a, rfl, ?_⟩⟩, by rw [hlen]; omega, ?_, ?_⟩
   ·intro j p hj
    rw [List.getElem?_map] at hj
    obtain ⟨i, hi, rfl⟩ := Option.map_eq_some_iff.1 hj
    have hjl : j < len := by
     have := (List.getElem?_eq_some_iff.1 hi).1
     simpa using this
    have hij : i = j := by
     rw [List.getElem?_range hjl] at hi
     exact (Option.some.inj hi).symm
    subst hij
    obtain ⟨⟨cs', h1, hk⟩, _⟩ := hf i hjl
    refine ⟨cs', d.K_len hk, hk, ?_⟩
    intro k u hu
    obtain ⟨_, hl', hc'⟩ := World.cells?_some h1
    have hk' : k < cs'.length := (List.getElem?_eq_some_iff.1 hu).1
    have hk2 : k < P.cellsOf e := by rw [← hl']; exact hk'
    have := hc' k hk2
    rw [Deep.add_add, hs] at this
    rw [this, hu]
   ·rw [hlen]
    have h1 := hz ((((List.range len).map D).length + ((List.range (m - len)).map fun j => D (len + j)).length) * P.bytesOf e) (by simp only [DataW.weights, ht]; exact List.mem_cons_self)
    rw [hB] at h1
    have h2 : len ≤ ((List.range len).map D).length + ((List.range (m - len)).map fun j => D (len + j)).length := by simp
    exact Nat.le_trans (Nat.mul_le_mul_right _ h2) h1
   ·intro x hx
    obtain ⟨i, hi, rfl⟩ := List.mem_map.1 hx
    exact (hf i (List.mem_range.1 hi)).2
theorem opensF_one {f : Field} {o : Nat} (ho : f.offset = o) (hc : P.cellsOf f.type = d.sz) (h : Opens enc P w f.type d S) : OpensF enc P w [f] o d S := by
 intro base spare held fuel cs xs hl hx hz
 match xs, hl with
 | [y], _ =>
  have hy := hx 0 f rfl
  rw [ho, hc] at hy
  exact h base spare held fuel _ y hy (fun n hn => hz n (by simp [DataW.weightsEach, hn]))
theorem zbk {f : Field} {fs : List Field} {o : Nat} {d2 : Kd β} {S2 : β → Prop} (ho : f.offset = o) (hc : P.cellsOf f.type = d.sz) (h : Opens enc P w f.type d S) (h2 : OpensF enc P w fs (o + d.sz) d2 S2) :
  OpensF enc P w (f :: fs) o (Kd.pair d d2) (fun x => S x.1 ∧ S2 x.2) := by
 intro base spare held fuel cs xs hl hx hz
 match xs, hl with
 | y :: ys, hl =>
  have hy := hx 0 f rfl
  rw [ho, hc] at hy
  obtain ⟨a, ha, hS⟩ := h base spare held fuel _ y hy (fun n hn => hz n (by simp only [List.map_cons, DataW.weightsEach, List.mem_append]; exact .inl hn))
  obtain ⟨b, hb, hS2⟩ := h2 base spare held fuel cs ys (by simpa using hl) (fun i g hg => by have := hx (i + 1) g (by simpa using hg); simpa using this) (fun n hn => hz n (by simp only [List.map_cons, DataW.weightsEach, List.mem_append]; exact .inr hn))
  refine ⟨(a, b), ⟨_, _, ?_, ha, hb⟩, hS, hS2⟩
  show (cs.drop o).take (d.sz + d2.sz) = _
  rw [List.take_add, List.drop_drop]
theorem opens_struct {fs : Array Field} (ht : P.underlying t = some (.struct fs)) (hs : P.cellsOf t = d.sz) (h : OpensF enc P w fs.toList 0 d S) : Opens enc P w t d S := by
 intro base spare held fuel cs x hx hz
 obtain ⟨xs, n, _, rfl, hl, hn, hm⟩ := DataW.trod_struct ht hx
 obtain ⟨a, ha, hS⟩ := h base spare held n cs xs (by simpa using hn) (fun i f hf => hm i f (by simpa using hf)) (fun n hn => hz n (by simp only [DataW.weights, ht]; exact hn))
 rw [List.drop_zero, ← hs, ← hl, List.take_length] at ha
 exact ⟨a, ha, hS⟩
theorem opens_iso {f : β → α} (h : Opens enc P w t d S) (g : α → β) (hg : ∀ y, f (g y) = y) : Opens enc P w t (Kd.iso d f) (fun b => S (f b)) := by
 intro base spare held fuel cs x hx hz
 obtain ⟨a, ha, hS⟩ := h base spare held fuel cs x hx hz
 exact ⟨g a, by show d.K w (f (g a)) cs; rw [hg]; exact ha, by show S (f (g a)); rw [hg]; exact hS⟩
end
end Go.Proofs.YtjghephnjkffcaaW.Opens
namespace Go.Proofs.Ytjghephnjkffcaa.PCk
open Go.RowKit Go.Proofs.YtjghephnjkffcaaW.PrintWords Go.Proofs.YtjghephnjkffcaaW.PrintLast Go.Proofs.YtjghephnjkffcaaW.Opens
def ok36 (l : List (Int)) : Prop := l.length ≤ maxLen ∧ l.length * 1 ≤ 140737488351232 ∧ ∀ x ∈ l, (Lit.int .u8 x).wf = true
set_option maxRecDepth 20000 in
theorem opens36 {H : Type} {enc : TypeId × Value → H} {w : World} : Opens enc Try.prog w 36 (Kd.slice 5 (Kd.int .u8)) ok36 :=
 opens_slice Try.underlying36 (by kernel_rfl) (by kernel_rfl) (zb3 Try.underlying5)
def ok66 (x : S66) : Prop := x.f0.size ≤ 140737488351232 ∧ (Lit.int .i64 x.f1).wf = true
set_option maxRecDepth 20000 in
theorem opens66 {H : Type} {enc : TypeId × Value → H} {w : World} : Opens enc Try.prog w 66 k66 ok66 :=
 opens_iso (opens_struct Try.underlying66 (by kernel_rfl) (zbk rfl (by kernel_rfl) (opens_string Try.underlying9) (opensF_one rfl (by kernel_rfl) (zb3 Try.underlying3)))) (fun y => ⟨y.1, y.2⟩) (fun _ => rfl)
def ok43 (l : List (S66)) : Prop := l.length ≤ maxLen ∧ l.length * 24 ≤ 140737488351232 ∧ ∀ x ∈ l, ok66 x
set_option maxRecDepth 20000 in
theorem opens43 {H : Type} {enc : TypeId × Value → H} {w : World} : Opens enc Try.prog w 43 (Kd.slice 66 k66) ok43 :=
 opens_slice Try.underlying43 (by kernel_rfl) (by kernel_rfl) opens66
def ok45 (x : S45) : Prop := (Lit.int .i64 x.f0).wf = true ∧ ok36 x.f1 ∧ ok43 x.f2 ∧ x.f3.size ≤ 140737488351232 ∧ (Lit.int .i64 x.f4).wf = true ∧ (Lit.int .i64 x.f5).wf = true
set_option maxRecDepth 20000 in
theorem opens45 {H : Type} {enc : TypeId × Value → H} {w : World} : Opens enc Try.prog w 45 k45 ok45 :=
 opens_iso (opens_struct Try.underlying45 (by kernel_rfl) (zbk rfl (by kernel_rfl) (zb3 Try.underlying3) (zbk rfl (by kernel_rfl) opens36 (zbk rfl (by kernel_rfl) opens43 (zbk rfl (by kernel_rfl) (opens_string Try.underlying9) (zbk rfl (by kernel_rfl) (zb3 Try.underlying3) (opensF_one rfl (by kernel_rfl) (zb3 Try.underlying2)))))))) (fun y => ⟨y.1, y.2.1, y.2.2.1, y.2.2.2.1, y.2.2.2.2.1, y.2.2.2.2.2⟩) (fun _ => rfl)
def ok22 (l : List (S45)) : Prop := l.length ≤ maxLen ∧ l.length * 88 ≤ 140737488351232 ∧ ∀ x ∈ l, ok45 x
set_option maxRecDepth 20000 in
theorem opens22 {H : Type} {enc : TypeId × Value → H} {w : World} : Opens enc Try.prog w 22 (Kd.slice 45 k45) ok22 :=
 opens_slice Try.underlying22 (by kernel_rfl) (by kernel_rfl) opens45
def ok24 (x : List (S45)) : Prop := ok22 (x)
set_option maxRecDepth 20000 in
theorem opens24 {H : Type} {enc : TypeId × Value → H} {w : World} : Opens enc Try.prog w 24 (Kd.slice 45 k45) ok24 :=
 opens_struct Try.underlying24 (by kernel_rfl) (opensF_one rfl (by kernel_rfl) opens22)
def ok38 (x : S38) : Prop := (Lit.int .i64 x.f0).wf = true ∧ (Lit.int .i64 x.f1).wf = true ∧ (Lit.int .i64 x.f2).wf = true ∧ (Lit.int .i64 x.f3).wf = true ∧ x.f4.size ≤ 140737488351232 ∧ x.f5.size ≤ 140737488351232 ∧ (Lit.int .i64 x.f6).wf = true ∧ True ∧ (Lit.int .i64 x.f8).wf = true ∧ (Lit.int .i64 x.f9).wf = true ∧ ok36 x.f10 ∧ (Lit.int .i64 x.f11).wf = true
set_option maxRecDepth 20000 in
theorem opens38 {H : Type} {enc : TypeId × Value → H} {w : World} : Opens enc Try.prog w 38 k38 ok38 :=
 opens_iso (opens_struct Try.underlying38 (by kernel_rfl) (zbk rfl (by kernel_rfl) (zb3 Try.underlying3) (zbk rfl (by kernel_rfl) (zb3 Try.underlying3) (zbk rfl (by kernel_rfl) (zb3 Try.underlying3) (zbk rfl (by kernel_rfl) (zb3 Try.underlying3) (zbk rfl (by kernel_rfl) (opens_string Try.underlying9) (zbk rfl (by kernel_rfl) (opens_string Try.underlying9) (zbk rfl (by kernel_rfl) (zb3 Try.underlying3) (zbk rfl (by kernel_rfl) (opens_bool Try.underlying4) (zbk rfl (by kernel_rfl) (zb3 Try.underlying3) (zbk rfl (by kernel_rfl) (zb3 Try.underlying3) (zbk rfl (by kernel_rfl) opens36 (opensF_one rfl (by kernel_rfl) (zb3 Try.underlying2)))))))))))))) (fun y => ⟨y.1, y.2.1, y.2.2.1, y.2.2.2.1, y.2.2.2.2.1, y.2.2.2.2.2.1, y.2.2.2.2.2.2.1, y.2.2.2.2.2.2.2.1, y.2.2.2.2.2.2.2.2.1, y.2.2.2.2.2.2.2.2.2.1, y.2.2.2.2.2.2.2.2.2.2.1, y.2.2.2.2.2.2.2.2.2.2.2⟩) (fun _ => rfl)
def ok25 (l : List (S38)) : Prop := l.length ≤ maxLen ∧ l.length * 128 ≤ 140737488351232 ∧ ∀ x ∈ l, ok38 x
set_option maxRecDepth 20000 in
theorem opens25 {H : Type} {enc : TypeId × Value → H} {w : World} : Opens enc Try.prog w 25 (Kd.slice 38 k38) ok25 :=
 opens_slice Try.underlying25 (by kernel_rfl) (by kernel_rfl) opens38
def ok27 (x : List (S45) × List (S38)) : Prop := ok24 (x.1) ∧ ok25 (x.2)
set_option maxRecDepth 20000 in
theorem opens27 {H : Type} {enc : TypeId × Value → H} {w : World} : Opens enc Try.prog w 27 (Kd.pair (Kd.slice 45 k45) (Kd.slice 38 k38)) ok27 :=
 opens_struct Try.underlying27 (by kernel_rfl) (zbk rfl (by kernel_rfl) opens24 (opensF_one rfl (by kernel_rfl) opens25))
end Go.Proofs.Ytjghephnjkffcaa.PCk
namespace Go.Proofs.Ytjghephnjkffcaa.PCk
open Go.RowKit Go.Proofs.YtjghephnjkffcaaW.PrintWords Go.Proofs.YtjghephnjkffcaaW.PrintLast Go.Proofs.YtjghephnjkffcaaW.PrintMore
attribute [local go_sem] zbV zbT zci zch zbG zbF zbU zbS
set_option linter.unusedVariables false
set_option linter.unusedSimpArgs false
def zaS.l0 : Nat → List Int → List Int → Int → Option (Bool)
 | 0, _, _, _ => none
 | k + 1, x0, x1, x5 => if x5 < (x0.length : Int) then (if 0 ≤ x5 then (if x5 < (x1.length : Int) then (if (rd x0 x5) = (rd x1 x5) then (zaS.l0 k x0 x1 (wrap64 (x5 + 1))) else (some false)) else (none)) else (none)) else (some true)
def zaS.f (k : Nat) (l0 : List Int) (l1 : List Int) : Option (Bool) := if (l0.length : Int) = (l1.length : Int) then (zaS.l0 k l0 l1 0) else (some false)
set_option maxHeartbeats 8000000 in
set_option maxRecDepth 100000 in
theorem zaS.calls (k : Nat) (A0 : Option Addr) (c0 : Nat) (l0 : List Int) (A1 : Option Addr) (c1 : Nat) (l1 : List Int) (r : Bool) (w : World) (hr0 : Kd.C (Kd.int .u8) w A0 l0.length l0) (hc0 : l0.length ≤ c0) (hr1 : Kd.C (Kd.int .u8) w A1 l1.length l1) (hc1 : l1.length ≤ c1) (h : zaS.f k l0 l1 = some r) :
  Calls Try.prog 24 #[.slice A0 l0.length c0, .slice A1 l1.length c1] w fun e w' => e = .returned (.bool r) ∧ zaK w w' := by
 have HR0 := zaa.mk hr0
 have HC0 := zaa.mk hc0
 clear hr0 hc0
 have HR1 := zaa.mk hr1
 have HC1 := zaa.mk hc1
 clear hr1 hc1
 have H : (if (l0.length : Int) = (l1.length : Int) then (zaS.l0 k l0 l1 0) else (some false)) = some r := h
 clear h
 by_cases c3 : (l0.length : Int) = (l1.length : Int)
 ·rw [if_pos c3] at H
  have c3b0 : ((l0.length : Int) == (l1.length : Int)) = true := beq_iff_eq.mpr c3
  have c3b1 : ((l0.length : Int) != (l1.length : Int)) = false := bne_eq_false_iff_eq.mpr c3
  have c3b2 : (l0.length == l1.length) = true := by first | simpa using c3 | (simp at c3 ⊢; omega)
  clear c3
  have H' := zaa.mk H
  clear H
  go_enter Try.func24, Try.ntmps24
  go_wp2
  repeat (go_quiet (fail); try go_wp2)
  go_loopg [5] k (fun kq v5 w' => ∃ (x5_1 : Int), v5 = .int .i64 x5_1 ∧ zaa (zaS.l0 kq l0 l1 x5_1 = some r) ∧ zaa (kq ≤ k) ∧ zaK w w')
  case atStart => exact ⟨(0), (by first | rfl | (simp; done) | (simp [*]; done)), H', ⟨Nat.le_refl _⟩, by repeat (first | exact zaK.refl _ | apply zaK.step)⟩
  case round =>
   clear H'
   try clear c1
   try clear c2
   try clear p2
   try clear c3
   try clear c3b0
   try clear c3b1
   try clear c3b2
   obtain ⟨x5_1, rfl, HA, HK1, ⟨m1, rfl⟩⟩ := hrel
   cases gk with
   | zero => exact absurd HA.out (by simp [zaS.l0])
   | succ k1 =>
    have H := HA.out
    clear HA
    simp only [zaS.l0] at H
    by_cases c4 : x5_1 < (l0.length : Int)
    ·rw [if_pos c4] at H
     have c4b0 : decide (x5_1 < (l0.length : Int)) = true := decide_eq_true c4
     clear c4
     by_cases c5 : 0 ≤ x5_1
     ·rw [if_pos c5] at H
      have c5b0 : decide (0 ≤ x5_1) = true := decide_eq_true c5
      clear c5
      by_cases c6 : x5_1 < (l1.length : Int)
      ·rw [if_pos c6] at H
       have c6b0 : decide (x5_1 < (l1.length : Int)) = true := decide_eq_true c6
       clear c6
       by_cases c7 : (rd l0 x5_1) = (rd l1 x5_1)
       ·rw [if_pos c7] at H
        have c7b0 : ((rd l0 x5_1) == (rd l1 x5_1)) = true := beq_iff_eq.mpr c7
        have c7b1 : ((rd l0 x5_1) != (rd l1 x5_1)) = false := bne_eq_false_iff_eq.mpr c7
        clear c7
        have H' := zaa.mk H
        clear H
        have p173 : 0 ≤ (x5_1 : Int) := of_decide_eq_true (by first | (with_reducible assumption) | assumption)
        have q173 : x5_1 < (l0.length : Int) := of_decide_eq_true (by first | (with_reducible assumption) | assumption)
        obtain ⟨ad173, e173, hx173_0⟩ := Kd.at_int HR0.out x5_1 p173 q173
        cases e173
        replace p173 := eq_true p173
        replace q173 := eq_true q173
        have p174 : 0 ≤ (x5_1 : Int) := of_decide_eq_true (by first | (with_reducible assumption) | assumption)
        have q174 : x5_1 < (l1.length : Int) := of_decide_eq_true (by first | (with_reducible assumption) | assumption)
        obtain ⟨ad174, e174, hx174_0⟩ := Kd.at_int HR1.out x5_1 p174 q174
        cases e174
        replace p174 := eq_true p174
        replace q174 := eq_true q174
        go_wp2
        repeat (go_quiet (fail); try go_wp2)
        go_roundg k1
        case measure => have := HK1.out; omega
        case rel => exact ⟨(wrap64 (x5_1 + 1)), (by first | rfl | (simp; done) | (simp [*]; done)), H', ⟨by have := HK1.out; omega⟩, by repeat (first | exact zaK.refl _ | apply zaK.step)⟩
       ·rw [if_neg c7] at H
        have c7b0 : ((rd l0 x5_1) == (rd l1 x5_1)) = false := beq_eq_false_iff_ne.mpr c7
        have c7b1 : ((rd l0 x5_1) != (rd l1 x5_1)) = true := bne_iff_ne.mpr c7
        obtain rfl := Option.some.inj H
        have p173 : 0 ≤ (x5_1 : Int) := of_decide_eq_true (by first | (with_reducible assumption) | assumption)
        have q173 : x5_1 < (l0.length : Int) := of_decide_eq_true (by first | (with_reducible assumption) | assumption)
        obtain ⟨ad173, e173, hx173_0⟩ := Kd.at_int HR0.out x5_1 p173 q173
        cases e173
        replace p173 := eq_true p173
        replace q173 := eq_true q173
        have p174 : 0 ≤ (x5_1 : Int) := of_decide_eq_true (by first | (with_reducible assumption) | assumption)
        have q174 : x5_1 < (l1.length : Int) := of_decide_eq_true (by first | (with_reducible assumption) | assumption)
        obtain ⟨ad174, e174, hx174_0⟩ := Kd.at_int HR1.out x5_1 p174 q174
        cases e174
        replace p174 := eq_true p174
        replace q174 := eq_true q174
        go_wp2
        repeat (go_quiet (fail); try go_wp2)
        go_ret
        exact ⟨by first | rfl | (simp; done) | (simp [*]; done), by repeat (first | exact zaK.refl _ | apply zaK.step)⟩
      ·rw [if_neg c6] at H
       exact absurd H (by simp)
     ·rw [if_neg c5] at H
      exact absurd H (by simp)
    ·rw [if_neg c4] at H
     have c4b0 : decide (x5_1 < (l0.length : Int)) = false := decide_eq_false c4
     clear c4
     obtain rfl := Option.some.inj H
     go_wp2
     repeat (go_quiet (fail); try go_wp2)
     go_ret
     exact ⟨by first | rfl | (simp; done) | (simp [*]; done), by repeat (first | exact zaK.refl _ | apply zaK.step)⟩
 ·rw [if_neg c3] at H
  have c3b0 : ((l0.length : Int) == (l1.length : Int)) = false := beq_eq_false_iff_ne.mpr c3
  have c3b1 : ((l0.length : Int) != (l1.length : Int)) = true := bne_iff_ne.mpr c3
  have c3b2 : (l0.length == l1.length) = false := by first | simpa using c3 | (simp at c3 ⊢; omega)
  obtain rfl := Option.some.inj H
  go_enter Try.func24, Try.ntmps24
  go_wp2
  repeat (go_quiet (fail); try go_wp2)
  go_ret
  exact ⟨by first | rfl | (simp; done) | (simp [*]; done), by repeat (first | exact zaK.refl _ | apply zaK.step)⟩
theorem eqA66 (d : Nat) (w : World) (x0 y0 : ByteArray) (x1 y1 : Int) :
  (Op.equalIn (d + 2) 66 (.agg #[.string x0, .int .i64 x1]) (.agg #[.string y0, .int .i64 y1])).run Try.prog w = .ok (x0.toList == y0.toList && (x1 == y1)) w := by
 refine eqA_of Try.underlying66 (by kernel_rfl) ?_
 refine eqf_cons (by rfl) (by go_simp; rfl) (by go_simp; rfl) (by go_simp) ?_
 exact eqf_last (by rfl) (by go_simp; rfl) (by go_simp; rfl) (by go_simp)
end Go.Proofs.Ytjghephnjkffcaa.PCk
namespace Go.Proofs.Ytjghephnjkffcaa.PCk
open Go.RowKit Go.Proofs.YtjghephnjkffcaaW.PrintWords Go.Proofs.YtjghephnjkffcaaW.PrintLast Go.Proofs.YtjghephnjkffcaaW.PrintMore
attribute [local go_sem] zbV zbT zci zch zbG zbF zbU zbS
set_option linter.unusedVariables false
set_option linter.unusedSimpArgs false
attribute [local go_sem high] eqA66
def zaO.l0 : Nat → List (S66) → List (S66) → Int → Option (Bool)
 | 0, _, _, _ => none
 | k + 1, x0, x1, x5 => if x5 < (x0.length : Int) then (if 0 ≤ x5 then (if x5 < (x1.length : Int) then (if (!((((zat x0 x5).f0).toList) == (((zat x1 x5).f0).toList)) || (!(((zat x0 x5).f1) == ((zat x1 x5).f1)))) = true then (some false) else (zaO.l0 k x0 x1 (wrap64 (x5 + 1)))) else (none)) else (none)) else (some true)
def zaO.f (k : Nat) (l0 : List (S66)) (l1 : List (S66)) : Option (Bool) := if (l0.length : Int) = (l1.length : Int) then (zaO.l0 k l0 l1 0) else (some false)
set_option maxHeartbeats 8000000 in
set_option maxRecDepth 100000 in
theorem zaO.calls (k : Nat) (A0 : Option Addr) (c0 : Nat) (l0 : List (S66)) (A1 : Option Addr) (c1 : Nat) (l1 : List (S66)) (r : Bool) (w : World) (hr0 : Kd.C k66 w A0 l0.length l0) (hc0 : l0.length ≤ c0) (hr1 : Kd.C k66 w A1 l1.length l1) (hc1 : l1.length ≤ c1) (h : zaO.f k l0 l1 = some r) :
  Calls Try.prog 44 #[.slice A0 l0.length c0, .slice A1 l1.length c1] w fun e w' => e = .returned (.bool r) ∧ zaK w w' := by
 have hu66 := Try.underlying66
 have HR0 := zaa.mk hr0
 have HC0 := zaa.mk hc0
 clear hr0 hc0
 have HR1 := zaa.mk hr1
 have HC1 := zaa.mk hc1
 clear hr1 hc1
 have H : (if (l0.length : Int) = (l1.length : Int) then (zaO.l0 k l0 l1 0) else (some false)) = some r := h
 clear h
 by_cases c3 : (l0.length : Int) = (l1.length : Int)
 ·rw [if_pos c3] at H
  have c3b0 : ((l0.length : Int) == (l1.length : Int)) = true := beq_iff_eq.mpr c3
  have c3b1 : ((l0.length : Int) != (l1.length : Int)) = false := bne_eq_false_iff_eq.mpr c3
  have c3b2 : (l0.length == l1.length) = true := by first | simpa using c3 | (simp at c3 ⊢; omega)
  clear c3
  have H' := zaa.mk H
  clear H
  go_enter Try.func44, Try.ntmps44
  go_wp2
  repeat (go_quiet (fail); try go_wp2)
  go_loopg [5] k (fun kq v5 w' => ∃ (x5_1 : Int), v5 = .int .i64 x5_1 ∧ zaa (zaO.l0 kq l0 l1 x5_1 = some r) ∧ zaa (kq ≤ k) ∧ zaK w w')
  case atStart => exact ⟨(0), (by first | rfl | (simp; done) | (simp [*]; done)), H', ⟨Nat.le_refl _⟩, by repeat (first | exact zaK.refl _ | apply zaK.step)⟩
  case round =>
   clear H'
   try clear c1
   try clear p2
   try clear c3
   try clear c3b0
   try clear c3b1
   try clear c3b2
   obtain ⟨x5_1, rfl, HA, HK1, ⟨m1, rfl⟩⟩ := hrel
   cases gk with
   | zero => exact absurd HA.out (by simp [zaO.l0])
   | succ k1 =>
    have H := HA.out
    clear HA
    simp only [zaO.l0] at H
    by_cases c4 : x5_1 < (l0.length : Int)
    ·rw [if_pos c4] at H
     have c4b0 : decide (x5_1 < (l0.length : Int)) = true := decide_eq_true c4
     clear c4
     by_cases c5 : 0 ≤ x5_1
     ·rw [if_pos c5] at H
      have c5b0 : decide (0 ≤ x5_1) = true := decide_eq_true c5
      clear c5
      by_cases c6 : x5_1 < (l1.length : Int)
      ·rw [if_pos c6] at H
       have c6b0 : decide (x5_1 < (l1.length : Int)) = true := decide_eq_true c6
       clear c6
       by_cases c7 : (!((((zat l0 x5_1).f0).toList) == (((zat l1 x5_1).f0).toList)) || (!(((zat l0 x5_1).f1) == ((zat l1 x5_1).f1)))) = true
       ·rw [if_pos c7] at H
        have c7b0 : (!((((zat l0 x5_1).f0).toList) == (((zat l1 x5_1).f0).toList)) || (!(((zat l0 x5_1).f1) == ((zat l1 x5_1).f1)))) = true := c7
        clear c7
        obtain rfl := Option.some.inj H
        have p175 : 0 ≤ (x5_1 : Int) := of_decide_eq_true (by first | (with_reducible assumption) | assumption)
        have q175 : x5_1 < (l0.length : Int) := of_decide_eq_true (by first | (with_reducible assumption) | assumption)
        obtain ⟨ad175, e175, hx175_0, hx175_1⟩ := zce HR0.out x5_1 p175 q175
        cases e175
        replace p175 := eq_true p175
        replace q175 := eq_true q175
        have p176 : 0 ≤ (x5_1 : Int) := of_decide_eq_true (by first | (with_reducible assumption) | assumption)
        have q176 : x5_1 < (l1.length : Int) := of_decide_eq_true (by first | (with_reducible assumption) | assumption)
        obtain ⟨ad176, e176, hx176_0, hx176_1⟩ := zce HR1.out x5_1 p176 q176
        cases e176
        replace p176 := eq_true p176
        replace q176 := eq_true q176
        go_wp2
        repeat (go_quiet (fail); try go_wp2)
        go_ret
        exact ⟨by first | rfl | (simp; done) | (simp [*]; done), by repeat (first | exact zaK.refl _ | apply zaK.step)⟩
       ·rw [if_neg c7] at H
        have c7b0 : (!((((zat l0 x5_1).f0).toList) == (((zat l1 x5_1).f0).toList)) || (!(((zat l0 x5_1).f1) == ((zat l1 x5_1).f1)))) = false := by simpa using c7
        clear c7
        have H' := zaa.mk H
        clear H
        have p175 : 0 ≤ (x5_1 : Int) := of_decide_eq_true (by first | (with_reducible assumption) | assumption)
        have q175 : x5_1 < (l0.length : Int) := of_decide_eq_true (by first | (with_reducible assumption) | assumption)
        obtain ⟨ad175, e175, hx175_0, hx175_1⟩ := zce HR0.out x5_1 p175 q175
        cases e175
        replace p175 := eq_true p175
        replace q175 := eq_true q175
        have p176 : 0 ≤ (x5_1 : Int) := of_decide_eq_true (by first | (with_reducible assumption) | assumption)
        have q176 : x5_1 < (l1.length : Int) := of_decide_eq_true (by first | (with_reducible assumption) | assumption)
        obtain ⟨ad176, e176, hx176_0, hx176_1⟩ := zce HR1.out x5_1 p176 q176
        cases e176
        replace p176 := eq_true p176
        replace q176 := eq_true q176
        go_wp2
        repeat (go_quiet (fail); try go_wp2)
        go_roundg k1
        case measure => have := HK1.out; omega
        case rel => exact ⟨(wrap64 (x5_1 + 1)), (by first | rfl | (simp; done) | (simp [*]; done)), H', ⟨by have := HK1.out; omega⟩, by repeat (first | exact zaK.refl _ | apply zaK.step)⟩
      ·rw [if_neg c6] at H
       exact absurd H (by simp)
     ·rw [if_neg c5] at H
      exact absurd H (by simp)
    ·rw [if_neg c4] at H
     have c4b0 : decide (x5_1 < (l0.length : Int)) = false := decide_eq_false c4
     clear c4
     obtain rfl := Option.some.inj H
     go_wp2
     repeat (go_quiet (fail); try go_wp2)
     go_ret
     exact ⟨by first | rfl | (simp; done) | (simp [*]; done), by repeat (first | exact zaK.refl _ | apply zaK.step)⟩
 ·rw [if_neg c3] at H
  have c3b0 : ((l0.length : Int) == (l1.length : Int)) = false := beq_eq_false_iff_ne.mpr c3
  have c3b1 : ((l0.length : Int) != (l1.length : Int)) = true := bne_iff_ne.mpr c3
  have c3b2 : (l0.length == l1.length) = false := by first | simpa using c3 | (simp at c3 ⊢; omega)
  obtain rfl := Option.some.inj H
  go_enter Try.func44, Try.ntmps44
  go_wp2
  repeat (go_quiet (fail); try go_wp2)
  go_ret
  exact ⟨by first | rfl | (simp; done) | (simp [*]; done), by repeat (first | exact zaK.refl _ | apply zaK.step)⟩
def zaB.f (k : Nat) (a0_0 : Int) (l0_1 : List Int) (l0_2 : List (S66)) (a0_3 : ByteArray) (a0_4 : Int) (a0_5 : Int) (a1_0 : Int) (l1_1 : List Int) (l1_2 : List (S66)) (a1_3 : ByteArray) (a1_4 : Int) (a1_5 : Int) : Option (Bool) := if a0_0 = a1_0 then ((zaS.f k l0_1 l1_1).bind fun t179 => (if t179 = true then ((zaO.f k l0_2 l1_2).bind fun t180 => (if t180 = true then (if a0_3.toList = a1_3.toList then (if a0_4 = a1_4 then (some (a0_5 == a1_5)) else (some false)) else (some false)) else (some false))) else (some false))) else (some false)
set_option maxHeartbeats 8000000 in
set_option maxRecDepth 100000 in
theorem zaB.calls (k : Nat) (a0_0 : Int) (A0_1 : Option Addr) (c0_1 : Nat) (l0_1 : List Int) (A0_2 : Option Addr) (c0_2 : Nat) (l0_2 : List (S66)) (a0_3 : ByteArray) (a0_4 : Int) (a0_5 : Int) (a1_0 : Int) (A1_1 : Option Addr) (c1_1 : Nat) (l1_1 : List Int) (A1_2 : Option Addr) (c1_2 : Nat) (l1_2 : List (S66)) (a1_3 : ByteArray) (a1_4 : Int) (a1_5 : Int) (r : Bool) (w : World) (hr0_1 : Kd.C (Kd.int .u8) w A0_1 l0_1.length l0_1) (hc0_1 : l0_1.length ≤ c0_1) (hr0_2 : Kd.C k66 w A0_2 l0_2.length l0_2) (hc0_2 : l0_2.length ≤ c0_2) (hr1_1 : Kd.C (Kd.int .u8) w A1_1 l1_1.length l1_1) (hc1_1 : l1_1.length ≤ c1_1) (hr1_2 : Kd.C k66 w A1_2 l1_2.length l1_2) (hc1_2 : l1_2.length ≤ c1_2) (h : zaB.f k a0_0 l0_1 l0_2 a0_3 a0_4 a0_5 a1_0 l1_1 l1_2 a1_3 a1_4 a1_5 = some r) :
  Calls Try.prog 18 #[.agg #[.int .i64 a0_0, .slice A0_1 l0_1.length c0_1, .slice A0_2 l0_2.length c0_2, .string a0_3, .int .i64 a0_4, .int .i64 a0_5], .agg #[.int .i64 a1_0, .slice A1_1 l1_1.length c1_1, .slice A1_2 l1_2.length c1_2, .string a1_3, .int .i64 a1_4, .int .i64 a1_5]] w fun e w' => e = .returned (.bool r) ∧ Below w.heap.size w w' := by
 have hu45 := Try.underlying45
 have HR0_1 := zaa.mk hr0_1
 have HC0_1 := zaa.mk hc0_1
 clear hr0_1 hc0_1
 have HR0_2 := zaa.mk hr0_2
 have HC0_2 := zaa.mk hc0_2
 clear hr0_2 hc0_2
 have HR1_1 := zaa.mk hr1_1
 have HC1_1 := zaa.mk hc1_1
 clear hr1_1 hc1_1
 have HR1_2 := zaa.mk hr1_2
 have HC1_2 := zaa.mk hc1_2
 clear hr1_2 hc1_2
 have HB := zaa.mk (Below.refl w.heap.size w)
 have H : (if a0_0 = a1_0 then ((zaS.f k l0_1 l1_1).bind fun t179 => (if t179 = true then ((zaO.f k l0_2 l1_2).bind fun t180 => (if t180 = true then (if a0_3.toList = a1_3.toList then (if a0_4 = a1_4 then (some (a0_5 == a1_5)) else (some false)) else (some false)) else (some false))) else (some false))) else (some false)) = some r := h
 clear h
 by_cases c3 : a0_0 = a1_0
 focus
  rw [if_pos c3] at H
  have c3b0 : (a0_0 == a1_0) = true := beq_iff_eq.mpr c3
  have c3b1 : (a0_0 != a1_0) = false := bne_eq_false_iff_eq.mpr c3
  clear c3
  replace H := Option.bind_eq_some_iff.mp H
  obtain ⟨t179, A40, H⟩ := H
  replace H : (if t179 = true then ((zaO.f k l0_2 l1_2).bind fun t180 => (if t180 = true then (if a0_3.toList = a1_3.toList then (if a0_4 = a1_4 then (some (a0_5 == a1_5)) else (some false)) else (some false)) else (some false))) else (some false)) = some r := H
  have A4 := zaa.mk A40
  clear A40
  by_cases c5 : t179 = true
  focus
   subst c5
   have H1 : ((zaO.f k l0_2 l1_2).bind fun t180 => (if t180 = true then (if a0_3.toList = a1_3.toList then (if a0_4 = a1_4 then (some (a0_5 == a1_5)) else (some false)) else (some false)) else (some false))) = some r := by rw [if_pos rfl] at H; exact H
   clear H
   have H := H1
   clear H1
   replace H := Option.bind_eq_some_iff.mp H
   obtain ⟨t180, A60, H⟩ := H
   replace H : (if t180 = true then (if a0_3.toList = a1_3.toList then (if a0_4 = a1_4 then (some (a0_5 == a1_5)) else (some false)) else (some false)) else (some false)) = some r := H
   have A6 := zaa.mk A60
   clear A60
   by_cases c7 : t180 = true
   focus
    subst c7
    have H1 : (if a0_3.toList = a1_3.toList then (if a0_4 = a1_4 then (some (a0_5 == a1_5)) else (some false)) else (some false)) = some r := by rw [if_pos rfl] at H; exact H
    clear H
    have H := H1
    clear H1
    by_cases c8 : a0_3.toList = a1_3.toList
    focus
     rw [if_pos c8] at H
     have c8b0 : (a0_3.toList == a1_3.toList) = true := beq_iff_eq.mpr c8
     have c8b1 : (a0_3.toList != a1_3.toList) = false := bne_eq_false_iff_eq.mpr c8
     clear c8
     by_cases c9 : a0_4 = a1_4
     focus
      rw [if_pos c9] at H
      have c9b0 : (a0_4 == a1_4) = true := beq_iff_eq.mpr c9
      have c9b1 : (a0_4 != a1_4) = false := bne_eq_false_iff_eq.mpr c9
      clear c9
      obtain rfl := Option.some.inj H
     rotate_left 1
     focus
      rw [if_neg c9] at H
      have c9b0 : (a0_4 == a1_4) = false := beq_eq_false_iff_ne.mpr c9
      have c9b1 : (a0_4 != a1_4) = true := bne_iff_ne.mpr c9
      obtain rfl := Option.some.inj H
    rotate_left 2
    focus
     rw [if_neg c8] at H
     have c8b0 : (a0_3.toList == a1_3.toList) = false := beq_eq_false_iff_ne.mpr c8
     have c8b1 : (a0_3.toList != a1_3.toList) = true := bne_iff_ne.mpr c8
     obtain rfl := Option.some.inj H
   rotate_left 3
   focus
    replace c7 := Bool.eq_false_iff.mpr c7
    subst c7
    have H1 : (some false) = some r := by rw [if_neg (show ¬ (false = true) by decide)] at H; exact H
    clear H
    have H := H1
    clear H1
    obtain rfl := Option.some.inj H
  rotate_left 4
  focus
   replace c5 := Bool.eq_false_iff.mpr c5
   subst c5
   have H1 : (some false) = some r := by rw [if_neg (show ¬ (false = true) by decide)] at H; exact H
   clear H
   have H := H1
   clear H1
   obtain rfl := Option.some.inj H
 rotate_left 5
 focus
  rw [if_neg c3] at H
  have c3b0 : (a0_0 == a1_0) = false := beq_eq_false_iff_ne.mpr c3
  have c3b1 : (a0_0 != a1_0) = true := bne_iff_ne.mpr c3
  obtain rfl := Option.some.inj H
 all_goals
  go_enter Try.func18, Try.ntmps18
  go_wp2_with (first | ((with_reducible refine zaT (N := 2) rfl ?_); refine zaN ?hg (N := 2) ?hd (cs := #[.int .i64 a0_0, .slice A0_1 l0_1.length c0_1, .slice A0_2 l0_2.length c0_2, .string a0_3, .int .i64 a0_4, .int .i64 a0_5]) (t := 45) ?hr ?_; (case hd => rfl); (case hg => rfl); (case hr => first | (go_simp; done) | (go_simp; rfl)); intro gb177 hg wq1 hbox hb; have n0_ := zaa.mk (zai (by repeat (first | (with_reducible first | exact HB.out | apply zac | apply zab | apply zad) | exact HB.out)) hb); have n1_ := zaa.mk (hbox); have n2_ := zaa.mk ((by rw [hg]; exact (zao (by repeat (first | (with_reducible first | exact HB.out | apply zac | apply zab | apply zad) | exact HB.out))) : w.heap.size ≤ gb177)); have n3_ := zaa.mk ((by rw [hg]; exact (zao (by repeat (first | (with_reducible first | exact HB.out | apply zac | apply zab | apply zad) | exact HB.out))) : w.heap.size ≤ gb177)); clear HB; have HB := n0_; have BK177 := n1_; have GW177 := n2_; have GE177 := n3_; clear n0_ n1_ n2_ n3_; clear hb hbox hg) | ((with_reducible refine zaT (N := 3) rfl ?_); refine zaN ?hg (N := 3) ?hd (cs := #[.int .i64 a1_0, .slice A1_1 l1_1.length c1_1, .slice A1_2 l1_2.length c1_2, .string a1_3, .int .i64 a1_4, .int .i64 a1_5]) (t := 45) ?hr ?_; (case hd => rfl); (case hg => rfl); (case hr => first | (go_simp; done) | (go_simp; rfl)); intro gb178 hg wq2 hbox hb; have n0_ := zaa.mk (zaq (g := gb177) (o := .cells #[.int .i64 a0_0, .slice A0_1 l0_1.length c0_1, .slice A0_2 l0_2.length c0_2, .string a0_3, .int .i64 a0_4, .int .i64 a0_5] 45 (0, 0)) (by (with_reducible repeat (first | refine zak ?_ _ | refine zam ?_ | refine zaj ?_ _)); exact BK177.out) hb); have n1_ := zaa.mk (zai (by repeat (first | (with_reducible first | exact HB.out | apply zac | apply zab | apply zad | refine zal ?_ GE177.out) | exact HB.out)) hb); have n2_ := zaa.mk (hbox); have n3_ := zaa.mk ((by rw [hg]; exact (zao (by repeat (first | (with_reducible first | exact HB.out | apply zac | apply zab | apply zad | refine zal ?_ GE177.out) | exact HB.out))) : w.heap.size ≤ gb178)); have n4_ := zaa.mk ((by rw [hg]; exact (zao (by repeat (first | (with_reducible first | exact HB.out | apply zac | apply zab | apply zad | refine zal ?_ GE177.out) | exact HB.out))) : w.heap.size ≤ gb178)); have n5_ := zaa.mk ((by rw [hg]; exact Nat.ne_of_lt (zaV (g := gb177) (o := .cells #[.int .i64 a0_0, .slice A0_1 l0_1.length c0_1, .slice A0_2 l0_2.length c0_2, .string a0_3, .int .i64 a0_4, .int .i64 a0_5] 45 (0, 0)) (by (with_reducible repeat (first | refine zak ?_ _ | refine zam ?_ | refine zaj ?_ _)); exact BK177.out)) : gb177 ≠ gb178)); have n6_ := zaa.mk ((by rw [hg]; exact Nat.ne_of_gt (zaV (g := gb177) (o := .cells #[.int .i64 a0_0, .slice A0_1 l0_1.length c0_1, .slice A0_2 l0_2.length c0_2, .string a0_3, .int .i64 a0_4, .int .i64 a0_5] 45 (0, 0)) (by (with_reducible repeat (first | refine zak ?_ _ | refine zam ?_ | refine zaj ?_ _)); exact BK177.out)) : gb178 ≠ gb177)); clear BK177; clear HB; have BK177 := n0_; have HB := n1_; have BK178 := n2_; have GW178 := n3_; have GE178 := n4_; have NB177_178 := n5_; have NB178_177 := n6_; clear n0_ n1_ n2_ n3_ n4_ n5_ n6_; clear hb hbox hg; have hnbq3 := NB177_178.out; have hncq3 := NB178_177.out; have hczq4_0 : wq2.cell? ⟨gb177, 0, none⟩ = some (.int .i64 a0_0) := (zah BK177.out 0).trans rfl; have hczq4_1 : wq2.cell? ⟨gb177, 1, none⟩ = some (.slice A0_1 l0_1.length c0_1) := (zah BK177.out 1).trans rfl; have hczq4_2 : wq2.cell? ⟨gb177, 2, none⟩ = some (.slice A0_2 l0_2.length c0_2) := (zah BK177.out 2).trans rfl; have hczq4_3 : wq2.cell? ⟨gb177, 3, none⟩ = some (.string a0_3) := (zah BK177.out 3).trans rfl; have hczq4_4 : wq2.cell? ⟨gb177, 4, none⟩ = some (.int .i64 a0_4) := (zah BK177.out 4).trans rfl; have hczq4_5 : wq2.cell? ⟨gb177, 5, none⟩ = some (.int .i64 a0_5) := (zah BK177.out 5).trans rfl; have hfzq4_0 := zaf BK177.out 0; have hfzq4_1 := zaf BK177.out 1; have hfzq4_2 := zaf BK177.out 2; have hfzq4_3 := zaf BK177.out 3; have hfzq4_4 := zaf BK177.out 4; have hfzq4_5 := zaf BK177.out 5; have hczq5_0 : wq2.cell? ⟨gb178, 0, none⟩ = some (.int .i64 a1_0) := (zah BK178.out 0).trans rfl; have hczq5_1 : wq2.cell? ⟨gb178, 1, none⟩ = some (.slice A1_1 l1_1.length c1_1) := (zah BK178.out 1).trans rfl; have hczq5_2 : wq2.cell? ⟨gb178, 2, none⟩ = some (.slice A1_2 l1_2.length c1_2) := (zah BK178.out 2).trans rfl; have hczq5_3 : wq2.cell? ⟨gb178, 3, none⟩ = some (.string a1_3) := (zah BK178.out 3).trans rfl; have hczq5_4 : wq2.cell? ⟨gb178, 4, none⟩ = some (.int .i64 a1_4) := (zah BK178.out 4).trans rfl; have hczq5_5 : wq2.cell? ⟨gb178, 5, none⟩ = some (.int .i64 a1_5) := (zah BK178.out 5).trans rfl; have hfzq5_0 := zaf BK178.out 0; have hfzq5_1 := zaf BK178.out 1; have hfzq5_2 := zaf BK178.out 2; have hfzq5_3 := zaf BK178.out 3; have hfzq5_4 := zaf BK178.out 4; have hfzq5_5 := zaf BK178.out 5) | (go_at_call 24; (with_reducible refine (zaS.calls k _ _ l0_1 _ _ l1_1 _ _ ?side1 ?side2 ?side3 ?side4 A4.out).mono ?_); (case side1 => repeat (first | exact (Kd.C_below HR0_1.out HB.out) | (with_reducible refine Kd.C_alloc ?_ _) | (with_reducible refine Kd.C_drewN ?_ _) | (with_reducible refine Kd.C_drew ?_))); (case side2 => exact HC0_1.out); (case side3 => repeat (first | exact (Kd.C_below HR1_1.out HB.out) | (with_reducible refine Kd.C_alloc ?_ _) | (with_reducible refine Kd.C_drewN ?_ _) | (with_reducible refine Kd.C_drew ?_))); (case side4 => exact HC1_1.out); rintro e w' ⟨rfl, ⟨nd, rfl⟩⟩) | (go_at_call 44; (with_reducible refine (zaO.calls k _ _ l0_2 _ _ l1_2 _ _ ?side1 ?side2 ?side3 ?side4 A6.out).mono ?_); (case side1 => repeat (first | exact (Kd.C_below HR0_2.out (by repeat (first | (with_reducible first | exact HB.out | apply zac | apply zab | apply zad | refine zal ?_ GE177.out | refine zal ?_ GE178.out) | exact HB.out))) | (with_reducible refine Kd.C_alloc ?_ _) | (with_reducible refine Kd.C_drewN ?_ _) | (with_reducible refine Kd.C_drew ?_))); (case side2 => exact HC0_2.out); (case side3 => repeat (first | exact (Kd.C_below HR1_2.out (by repeat (first | (with_reducible first | exact HB.out | apply zac | apply zab | apply zad | refine zal ?_ GE177.out | refine zal ?_ GE178.out) | exact HB.out))) | (with_reducible refine Kd.C_alloc ?_ _) | (with_reducible refine Kd.C_drewN ?_ _) | (with_reducible refine Kd.C_drew ?_))); (case side4 => exact HC1_2.out); rintro e w' ⟨rfl, ⟨nd, rfl⟩⟩))
  go_ret
  exact ⟨by first | rfl | (simp [zas, zar] <;> rfl) | (simp [*, zas, zar] <;> rfl), by repeat (first | (with_reducible first | exact HB.out | apply zac | apply zab | apply zad | refine zal ?_ GE177.out | refine zal ?_ GE178.out) | exact HB.out)⟩
def zay.l0 : Nat → List (S45) → List (S45) → Int → Option (Bool)
 | 0, _, _, _ => none
 | k + 1, x0, x1, x5 => if x5 < (x0.length : Int) then (if 0 ≤ x5 then (if x5 < (x1.length : Int) then ((zaB.f k ((zae x0 x5).f0) ((zae x0 x5).f1) ((zae x0 x5).f2) ((zae x0 x5).f3) ((zae x0 x5).f4) ((zae x0 x5).f5) ((zae x1 x5).f0) ((zae x1 x5).f1) ((zae x1 x5).f2) ((zae x1 x5).f3) ((zae x1 x5).f4) ((zae x1 x5).f5)).bind fun t195 => (if t195 = true then (zay.l0 k x0 x1 (wrap64 (x5 + 1))) else (some false))) else (none)) else (none)) else (some true)
def zay.f (k : Nat) (l0 : List (S45)) (l1 : List (S45)) : Option (Bool) := if (l0.length : Int) = (l1.length : Int) then (zay.l0 k l0 l1 0) else (some false)
def zay.T6 : Bool × List (List Nat × List Nat) := (true, [([], []), ([], []), ([0, 1], [0, 1]), ([2], [2]), ([], []), ([], []), ([4, 5], [4, 5]), ([6], [6]), ([3, 7], [3, 7]), ([8], [8])])
def zay.B6 : List Nat := [0, 0, 3, 7, 0, 0, 48, 112, 255, 511]
theorem zay.tab6 : rtab .any (opsOf Try.f36 6) = zay.T6 := by kernel_rfl
theorem zay.bits6 : waitsOk zay.T6.2 zay.B6 = true := by kernel_rfl
set_option maxHeartbeats 8000000 in
set_option maxRecDepth 100000 in
theorem zay.calls (k : Nat) (A0 : Option Addr) (c0 : Nat) (l0 : List (S45)) (A1 : Option Addr) (c1 : Nat) (l1 : List (S45)) (r : Bool) (w : World) (hr0 : Kd.C k45 w A0 l0.length l0) (hc0 : l0.length ≤ c0) (hr1 : Kd.C k45 w A1 l1.length l1) (hc1 : l1.length ≤ c1) (h : zay.f k l0 l1 = some r) :
  Calls Try.prog 36 #[.slice A0 l0.length c0, .slice A1 l1.length c1] w fun e w' => e = .returned (.bool r) ∧ Below w.heap.size w w' := by
 have hu45 := Try.underlying45
 have HR0 := zaa.mk hr0
 have HC0 := zaa.mk hc0
 clear hr0 hc0
 have HR1 := zaa.mk hr1
 have HC1 := zaa.mk hc1
 clear hr1 hc1
 have HB := zaa.mk (Below.refl w.heap.size w)
 have H : (if (l0.length : Int) = (l1.length : Int) then (zay.l0 k l0 l1 0) else (some false)) = some r := h
 clear h
 by_cases c3 : (l0.length : Int) = (l1.length : Int)
 ·rw [if_pos c3] at H
  have c3b0 : ((l0.length : Int) == (l1.length : Int)) = true := beq_iff_eq.mpr c3
  have c3b1 : ((l0.length : Int) != (l1.length : Int)) = false := bne_eq_false_iff_eq.mpr c3
  have c3b2 : (l0.length == l1.length) = true := by first | simpa using c3 | (simp at c3 ⊢; omega)
  clear c3
  have H' := zaa.mk H
  clear H
  go_enter Try.func36, Try.ntmps36
  go_wp2
  go_loopg [5] k (fun kq v5 w' => ∃ (x5_1 : Int), v5 = .int .i64 x5_1 ∧ zaa (zay.l0 kq l0 l1 x5_1 = some r) ∧ zaa (kq ≤ k) ∧ zaa (Below w.heap.size w w'))
  case atStart => exact ⟨(0), (by first | rfl | (simp; done) | (simp [*]; done)), H', ⟨Nat.le_refl _⟩, ⟨by repeat (first | (with_reducible first | exact HB.out | apply zac | apply zab | apply zad) | exact HB.out)⟩⟩
  case round =>
   clear H'
   try clear c1
   try clear p2
   try clear c3
   try clear c3b0
   try clear c3b1
   try clear c3b2
   obtain ⟨x5_1, rfl, HA, HK1, HB⟩ := hrel
   cases gk with
   | zero => exact absurd HA.out (by simp [zay.l0])
   | succ k1 =>
    have H := HA.out
    clear HA
    simp only [zay.l0] at H
    by_cases c4 : x5_1 < (l0.length : Int)
    ·rw [if_pos c4] at H
     have c4b0 : decide (x5_1 < (l0.length : Int)) = true := decide_eq_true c4
     clear c4
     by_cases c5 : 0 ≤ x5_1
     ·rw [if_pos c5] at H
      have c5b0 : decide (0 ≤ x5_1) = true := decide_eq_true c5
      clear c5
      by_cases c6 : x5_1 < (l1.length : Int)
      ·rw [if_pos c6] at H
       have c6b0 : decide (x5_1 < (l1.length : Int)) = true := decide_eq_true c6
       clear c6
       replace H := Option.bind_eq_some_iff.mp H
       obtain ⟨t195, A70, H⟩ := H
       replace H : (if t195 = true then (zay.l0 k1 l0 l1 (wrap64 (x5_1 + 1))) else (some false)) = some r := H
       have A7 := zaa.mk A70
       clear A70
       by_cases c8 : t195 = true
       ·subst c8
        have H1 : (zay.l0 k1 l0 l1 (wrap64 (x5_1 + 1))) = some r := by rw [if_pos rfl] at H; exact H
        clear H
        have H := H1
        clear H1
        have H' := zaa.mk H
        clear H
        try go_wp2
        have n0_ := zaa.mk (zad HB.out)
        clear HB
        have HB := n0_
        clear n0_
        have p193 : 0 ≤ (x5_1 : Int) := of_decide_eq_true (by first | (with_reducible assumption) | assumption)
        have q193 : x5_1 < (l0.length : Int) := of_decide_eq_true (by first | (with_reducible assumption) | assumption)
        obtain ⟨ad193, A193_1, c193_1, A193_2, c193_2, e193, hx193_0, hx193_1, hx193_2, hx193_3, hx193_4, hx193_5, hl193_1, hi193_1, hl193_2, hi193_2⟩ := zbn HR0.out x5_1 p193 q193
        have hw193_5 := hx193_5
        have hw193_4 := hx193_4
        have hw193_3 := hx193_3
        have hw193_2 := hx193_2
        have hw193_1 := hx193_1
        have hw193_0 := hx193_0
        cases e193
        replace hx193_0 := (HB.out.cell (World.block_lt_of_cell? w _ hx193_0)).trans hx193_0
        replace hx193_1 := (HB.out.cell (World.block_lt_of_cell? w _ hx193_1)).trans hx193_1
        replace hx193_2 := (HB.out.cell (World.block_lt_of_cell? w _ hx193_2)).trans hx193_2
        replace hx193_3 := (HB.out.cell (World.block_lt_of_cell? w _ hx193_3)).trans hx193_3
        replace hx193_4 := (HB.out.cell (World.block_lt_of_cell? w _ hx193_4)).trans hx193_4
        replace hx193_5 := (HB.out.cell (World.block_lt_of_cell? w _ hx193_5)).trans hx193_5
        have HR193_1 := zaa.mk hi193_1
        have HC193_1 := zaa.mk hl193_1
        clear hi193_1 hl193_1
        have HR193_2 := zaa.mk hi193_2
        have HC193_2 := zaa.mk hl193_2
        clear hi193_2 hl193_2
        replace p193 := eq_true p193
        replace q193 := eq_true q193
        have p194 : 0 ≤ (x5_1 : Int) := of_decide_eq_true (by first | (with_reducible assumption) | assumption)
        have q194 : x5_1 < (l1.length : Int) := of_decide_eq_true (by first | (with_reducible assumption) | assumption)
        obtain ⟨ad194, A194_1, c194_1, A194_2, c194_2, e194, hx194_0, hx194_1, hx194_2, hx194_3, hx194_4, hx194_5, hl194_1, hi194_1, hl194_2, hi194_2⟩ := zbn HR1.out x5_1 p194 q194
        have hw194_5 := hx194_5
        have hw194_4 := hx194_4
        have hw194_3 := hx194_3
        have hw194_2 := hx194_2
        have hw194_1 := hx194_1
        have hw194_0 := hx194_0
        cases e194
        replace hx194_0 := (HB.out.cell (World.block_lt_of_cell? w _ hx194_0)).trans hx194_0
        replace hx194_1 := (HB.out.cell (World.block_lt_of_cell? w _ hx194_1)).trans hx194_1
        replace hx194_2 := (HB.out.cell (World.block_lt_of_cell? w _ hx194_2)).trans hx194_2
        replace hx194_3 := (HB.out.cell (World.block_lt_of_cell? w _ hx194_3)).trans hx194_3
        replace hx194_4 := (HB.out.cell (World.block_lt_of_cell? w _ hx194_4)).trans hx194_4
        replace hx194_5 := (HB.out.cell (World.block_lt_of_cell? w _ hx194_5)).trans hx194_5
        have HR194_1 := zaa.mk hi194_1
        have HC194_1 := zaa.mk hl194_1
        clear hi194_1 hl194_1
        have HR194_2 := zaa.mk hi194_2
        have HC194_2 := zaa.mk hl194_2
        clear hi194_2 hl194_2
        replace p194 := eq_true p194
        replace q194 := eq_true q194
        refine start_ (n := 10) (S := fun w' => w'.cell? (ad193.add ((x5_1).toNat * 6)) = some (.int .i64 ((zae l0 x5_1).f0)) ∧ w'.cell? ⟨(ad193.add ((x5_1).toNat * 6)).block, (ad193.add ((x5_1).toNat * 6)).off + 1, none⟩ = some (.slice A193_1 ((zae l0 x5_1).f1).length c193_1) ∧ w'.cell? ⟨(ad193.add ((x5_1).toNat * 6)).block, (ad193.add ((x5_1).toNat * 6)).off + 2, none⟩ = some (.slice A193_2 ((zae l0 x5_1).f2).length c193_2) ∧ w'.cell? ⟨(ad193.add ((x5_1).toNat * 6)).block, (ad193.add ((x5_1).toNat * 6)).off + 3, none⟩ = some (.string ((zae l0 x5_1).f3)) ∧ w'.cell? ⟨(ad193.add ((x5_1).toNat * 6)).block, (ad193.add ((x5_1).toNat * 6)).off + 4, none⟩ = some (.int .i64 ((zae l0 x5_1).f4)) ∧ w'.cell? ⟨(ad193.add ((x5_1).toNat * 6)).block, (ad193.add ((x5_1).toNat * 6)).off + 5, none⟩ = some (.int .i64 ((zae l0 x5_1).f5)) ∧ w'.cell? (ad194.add ((x5_1).toNat * 6)) = some (.int .i64 ((zae l1 x5_1).f0)) ∧ w'.cell? ⟨(ad194.add ((x5_1).toNat * 6)).block, (ad194.add ((x5_1).toNat * 6)).off + 1, none⟩ = some (.slice A194_1 ((zae l1 x5_1).f1).length c194_1) ∧ w'.cell? ⟨(ad194.add ((x5_1).toNat * 6)).block, (ad194.add ((x5_1).toNat * 6)).off + 2, none⟩ = some (.slice A194_2 ((zae l1 x5_1).f2).length c194_2) ∧ w'.cell? ⟨(ad194.add ((x5_1).toNat * 6)).block, (ad194.add ((x5_1).toNat * 6)).off + 3, none⟩ = some (.string ((zae l1 x5_1).f3)) ∧ w'.cell? ⟨(ad194.add ((x5_1).toNat * 6)).block, (ad194.add ((x5_1).toNat * 6)).off + 4, none⟩ = some (.int .i64 ((zae l1 x5_1).f4)) ∧ w'.cell? ⟨(ad194.add ((x5_1).toNat * 6)).block, (ad194.add ((x5_1).toNat * 6)).off + 5, none⟩ = some (.int .i64 ((zae l1 x5_1).f5))) (ds := []) #[false, false, false, false, false, false, false, false, false, false] (by kernel_rfl) rfl rfl ⟨((HB.out.cell (World.block_lt_of_cell? w _ hw193_0)).trans hw193_0), ((HB.out.cell (World.block_lt_of_cell? w _ hw193_1)).trans hw193_1), ((HB.out.cell (World.block_lt_of_cell? w _ hw193_2)).trans hw193_2), ((HB.out.cell (World.block_lt_of_cell? w _ hw193_3)).trans hw193_3), ((HB.out.cell (World.block_lt_of_cell? w _ hw193_4)).trans hw193_4), ((HB.out.cell (World.block_lt_of_cell? w _ hw193_5)).trans hw193_5), ((HB.out.cell (World.block_lt_of_cell? w _ hw194_0)).trans hw194_0), ((HB.out.cell (World.block_lt_of_cell? w _ hw194_1)).trans hw194_1), ((HB.out.cell (World.block_lt_of_cell? w _ hw194_2)).trans hw194_2), ((HB.out.cell (World.block_lt_of_cell? w _ hw194_3)).trans hw194_3), ((HB.out.cell (World.block_lt_of_cell? w _ hw194_4)).trans hw194_4), ((HB.out.cell (World.block_lt_of_cell? w _ hw194_5)).trans hw194_5)⟩ (fun hHeld => ?_); refine with_tabW zay.tab6 zay.bits6 (fun HT_ HW_ => ?_)
        generalize wr.drew = w9 at HB HR193_1 HR193_2 HR194_1 HR194_2 hx193_0 hx193_1 hx193_2 hx193_3 hx193_4 hx193_5 hx194_0 hx194_1 hx194_2 hx194_3 hx194_4 hx194_5 hHeld ⊢
        refine zb2 (i := 0) (N := some 17) (v := ?_) (a' := ?_) #[true, false, false, false, false, false, false, false, false, false] rfl rfl (any_of HT_.out (by kernel_rfl)) (fun _ _ _ h => h) (Or.inl ⟨by rfl, ?_⟩) ?_ ?_
        rotate_left
        ·intro w'
         go_simp
         with_reducible rfl
        rotate_left
        ·simp only [Act.put, List.setIfInBounds_toArray, List.set_cons_zero, List.set_cons_succ, zbq, zbv]
         rfl
        refine zb2 (i := 1) (N := some 18) (v := ?_) (a' := ?_) #[true, true, false, false, false, false, false, false, false, false] rfl rfl (any_of HT_.out (by kernel_rfl)) (fun _ _ _ h => h) (Or.inl ⟨by rfl, ?_⟩) ?_ ?_
        rotate_left
        ·intro w'
         go_simp
         with_reducible rfl
        rotate_left
        ·simp only [Act.put, List.setIfInBounds_toArray, List.set_cons_zero, List.set_cons_succ, zbq, zbv]
         rfl
        refine zb2 (i := 2) (N := some 19) (v := ?_) (a' := ?_) #[true, true, true, false, false, false, false, false, false, false] rfl rfl (any_of HT_.out (by kernel_rfl)) (fun _ _ _ h => h) (Or.inl ⟨by rfl, ?_⟩) ?_ ?_
        rotate_left
        ·intro w'
         go_simp
         with_reducible rfl
        rotate_left
        ·simp only [Act.put, List.setIfInBounds_toArray, List.set_cons_zero, List.set_cons_succ, zbq, zbv]
         rfl
        refine zb2 (i := 4) (N := some 21) (v := ?_) (a' := ?_) #[true, true, true, false, true, false, false, false, false, false] rfl rfl (any_of HT_.out (by kernel_rfl)) (fun _ _ _ h => h) (Or.inl ⟨by rfl, ?_⟩) ?_ ?_
        rotate_left
        ·intro w'
         go_simp
         with_reducible rfl
        rotate_left
        ·simp only [Act.put, List.setIfInBounds_toArray, List.set_cons_zero, List.set_cons_succ, zbq, zbv]
         rfl
        refine zb2 (i := 5) (N := some 22) (v := ?_) (a' := ?_) #[true, true, true, false, true, true, false, false, false, false] rfl rfl (any_of HT_.out (by kernel_rfl)) (fun _ _ _ h => h) (Or.inl ⟨by rfl, ?_⟩) ?_ ?_
        rotate_left
        ·intro w'
         go_simp
         with_reducible rfl
        rotate_left
        ·simp only [Act.put, List.setIfInBounds_toArray, List.set_cons_zero, List.set_cons_succ, zbq, zbv]
         rfl
        refine zb2 (i := 6) (N := some 23) (v := ?_) (a' := ?_) #[true, true, true, false, true, true, true, false, false, false] rfl rfl (any_of HT_.out (by kernel_rfl)) (fun _ _ _ h => h) (Or.inl ⟨by rfl, ?_⟩) ?_ ?_
        rotate_left
        ·intro w'
         go_simp
         with_reducible rfl
        rotate_left
        ·simp only [Act.put, List.setIfInBounds_toArray, List.set_cons_zero, List.set_cons_succ, zbq, zbv]
         rfl
        refine take_ (i := 3) (N := some 20) (v := ?_) (a' := ?_) #[true, true, true, true, true, true, true, false, false, false] rfl rfl (take_ofW HT_.out HW_.out (by kernel_rfl)) (fun _ _ _ h => h) (Or.inl ⟨by rfl, ?_⟩) hHeld ?_ ?_
        rotate_left
        ·rintro w' ⟨s0, s1, s2, s3, s4, s5, s6, s7, s8, s9, s10, s11⟩
         go_simp
         with_reducible rfl
        rotate_left
        ·simp only [Act.put, List.setIfInBounds_toArray, List.set_cons_zero, List.set_cons_succ, zbq, zbv]
         rfl
        refine take_ (i := 7) (N := some 24) (v := ?_) (a' := ?_) #[true, true, true, true, true, true, true, true, false, false] rfl rfl (take_ofW HT_.out HW_.out (by kernel_rfl)) (fun _ _ _ h => h) (Or.inl ⟨by rfl, ?_⟩) hHeld ?_ ?_
        rotate_left
        ·rintro w' ⟨s0, s1, s2, s3, s4, s5, s6, s7, s8, s9, s10, s11⟩
         go_simp
         with_reducible rfl
        rotate_left
        ·simp only [Act.put, List.setIfInBounds_toArray, List.set_cons_zero, List.set_cons_succ, zbq, zbv]
         rfl
        refine one_ (i := 8) (N := some 25) #[true, true, true, true, true, true, true, true, true, false] rfl rfl (one_of HT_.out (by kernel_rfl)) (by decide) (fun K hK => ?_)
        refine goes_ Try.func18 (by kernel_rfl) rfl #[.agg #[.int .i64 ((zae l0 x5_1).f0), .slice A193_1 ((zae l0 x5_1).f1).length c193_1, .slice A193_2 ((zae l0 x5_1).f2).length c193_2, .string ((zae l0 x5_1).f3), .int .i64 ((zae l0 x5_1).f4), .int .i64 ((zae l0 x5_1).f5)], .agg #[.int .i64 ((zae l1 x5_1).f0), .slice A194_1 ((zae l1 x5_1).f1).length c194_1, .slice A194_2 ((zae l1 x5_1).f2).length c194_2, .string ((zae l1 x5_1).f3), .int .i64 ((zae l1 x5_1).f4), .int .i64 ((zae l1 x5_1).f5)]] (by rfl) rfl rfl (by (try simp only [List.map_toArray, List.map_cons, List.map_nil]); first | done | rfl | (simp only [List.length_drop, List.length_take]; rfl)) ?_
        with_reducible refine (zaB.calls k1 ((zae l0 x5_1).f0) _ _ ((zae l0 x5_1).f1) _ _ ((zae l0 x5_1).f2) ((zae l0 x5_1).f3) ((zae l0 x5_1).f4) ((zae l0 x5_1).f5) ((zae l1 x5_1).f0) _ _ ((zae l1 x5_1).f1) _ _ ((zae l1 x5_1).f2) ((zae l1 x5_1).f3) ((zae l1 x5_1).f4) ((zae l1 x5_1).f5) true _ ?side1 ?side2 ?side3 ?side4 ?side5 ?side6 ?side7 ?side8 A7.out).mono ?_
        (case side1 => repeat (first | exact (Kd.C_below HR193_1.out HB.out) | (with_reducible refine Kd.C_alloc ?_ _) | (with_reducible refine Kd.C_drewN ?_ _) | (with_reducible refine Kd.C_drew ?_)))
        (case side2 => exact HC193_1.out)
        (case side3 => repeat (first | exact (Kd.C_below HR193_2.out HB.out) | (with_reducible refine Kd.C_alloc ?_ _) | (with_reducible refine Kd.C_drewN ?_ _) | (with_reducible refine Kd.C_drew ?_)))
        (case side4 => exact HC193_2.out)
        (case side5 => repeat (first | exact (Kd.C_below HR194_1.out HB.out) | (with_reducible refine Kd.C_alloc ?_ _) | (with_reducible refine Kd.C_drewN ?_ _) | (with_reducible refine Kd.C_drew ?_)))
        (case side6 => exact HC194_1.out)
        (case side7 => repeat (first | exact (Kd.C_below HR194_2.out HB.out) | (with_reducible refine Kd.C_alloc ?_ _) | (with_reducible refine Kd.C_drewN ?_ _) | (with_reducible refine Kd.C_drew ?_)))
        (case side8 => exact HC194_2.out)
        rintro e w10 ⟨rfl, hb⟩
        refine ⟨_, rfl, ?_⟩
        have n0_ := zaa.mk (zai (by repeat (first | (with_reducible first | exact HB.out | apply zac | apply zab | apply zad) | exact HB.out)) hb)
        clear HB
        have HB := n0_
        clear n0_
        (try clear hb)
        (try clear hb2)
        (try clear hk)
        (try clear hi)
        refine hK.out _ _ ⟨((HB.out.cell (World.block_lt_of_cell? w _ hw193_0)).trans hw193_0), ((HB.out.cell (World.block_lt_of_cell? w _ hw193_1)).trans hw193_1), ((HB.out.cell (World.block_lt_of_cell? w _ hw193_2)).trans hw193_2), ((HB.out.cell (World.block_lt_of_cell? w _ hw193_3)).trans hw193_3), ((HB.out.cell (World.block_lt_of_cell? w _ hw193_4)).trans hw193_4), ((HB.out.cell (World.block_lt_of_cell? w _ hw193_5)).trans hw193_5), ((HB.out.cell (World.block_lt_of_cell? w _ hw194_0)).trans hw194_0), ((HB.out.cell (World.block_lt_of_cell? w _ hw194_1)).trans hw194_1), ((HB.out.cell (World.block_lt_of_cell? w _ hw194_2)).trans hw194_2), ((HB.out.cell (World.block_lt_of_cell? w _ hw194_3)).trans hw194_3), ((HB.out.cell (World.block_lt_of_cell? w _ hw194_4)).trans hw194_4), ((HB.out.cell (World.block_lt_of_cell? w _ hw194_5)).trans hw194_5)⟩ (fun hHeld => ?_)
        clear hK K
        refine norm_ (a' := ?_) ?_ ?_
        rotate_left
        ·show Act.put _ (some 25) _ = _
         simp only [Act.put, List.setIfInBounds_toArray, List.set_cons_zero, List.set_cons_succ, zbq, zbv]
         rfl
        refine zb2 (i := 9) (N := some 26) (v := ?_) (a' := ?_) #[true, true, true, true, true, true, true, true, true, true] rfl rfl (any_of HT_.out (by kernel_rfl)) (fun _ _ _ h => h) (Or.inl ⟨by rfl, ?_⟩) ?_ ?_
        rotate_left
        ·intro w'
         go_simp
         with_reducible rfl
        rotate_left
        ·simp only [Act.put, List.setIfInBounds_toArray, List.set_cons_zero, List.set_cons_succ, zbq, zbv]
         rfl
        refine done_ (done_of HT_.out (by kernel_rfl)) ?_
        try go_wp2
        go_roundg k1
        case measure => have := HK1.out; omega
        case rel => exact ⟨(wrap64 (x5_1 + 1)), (by first | rfl | (simp; done) | (simp [*]; done)), H', ⟨by have := HK1.out; omega⟩, ⟨by repeat (first | (with_reducible first | exact HB.out | apply zac | apply zab | apply zad) | exact HB.out)⟩⟩
       ·replace c8 := Bool.eq_false_iff.mpr c8
        subst c8
        have H1 : (some false) = some r := by rw [if_neg (show ¬ (false = true) by decide)] at H; exact H
        clear H
        have H := H1
        clear H1
        obtain rfl := Option.some.inj H
        try go_wp2
        have n0_ := zaa.mk (zad HB.out)
        clear HB
        have HB := n0_
        clear n0_
        have p193 : 0 ≤ (x5_1 : Int) := of_decide_eq_true (by first | (with_reducible assumption) | assumption)
        have q193 : x5_1 < (l0.length : Int) := of_decide_eq_true (by first | (with_reducible assumption) | assumption)
        obtain ⟨ad193, A193_1, c193_1, A193_2, c193_2, e193, hx193_0, hx193_1, hx193_2, hx193_3, hx193_4, hx193_5, hl193_1, hi193_1, hl193_2, hi193_2⟩ := zbn HR0.out x5_1 p193 q193
        have hw193_5 := hx193_5
        have hw193_4 := hx193_4
        have hw193_3 := hx193_3
        have hw193_2 := hx193_2
        have hw193_1 := hx193_1
        have hw193_0 := hx193_0
        cases e193
        replace hx193_0 := (HB.out.cell (World.block_lt_of_cell? w _ hx193_0)).trans hx193_0
        replace hx193_1 := (HB.out.cell (World.block_lt_of_cell? w _ hx193_1)).trans hx193_1
        replace hx193_2 := (HB.out.cell (World.block_lt_of_cell? w _ hx193_2)).trans hx193_2
        replace hx193_3 := (HB.out.cell (World.block_lt_of_cell? w _ hx193_3)).trans hx193_3
        replace hx193_4 := (HB.out.cell (World.block_lt_of_cell? w _ hx193_4)).trans hx193_4
        replace hx193_5 := (HB.out.cell (World.block_lt_of_cell? w _ hx193_5)).trans hx193_5
        have HR193_1 := zaa.mk hi193_1
        have HC193_1 := zaa.mk hl193_1
        clear hi193_1 hl193_1
        have HR193_2 := zaa.mk hi193_2
        have HC193_2 := zaa.mk hl193_2
        clear hi193_2 hl193_2
        replace p193 := eq_true p193
        replace q193 := eq_true q193
        have p194 : 0 ≤ (x5_1 : Int) := of_decide_eq_true (by first | (with_reducible assumption) | assumption)
        have q194 : x5_1 < (l1.length : Int) := of_decide_eq_true (by first | (with_reducible assumption) | assumption)
        obtain ⟨ad194, A194_1, c194_1, A194_2, c194_2, e194, hx194_0, hx194_1, hx194_2, hx194_3, hx194_4, hx194_5, hl194_1, hi194_1, hl194_2, hi194_2⟩ := zbn HR1.out x5_1 p194 q194
        have hw194_5 := hx194_5
        have hw194_4 := hx194_4
        have hw194_3 := hx194_3
        have hw194_2 := hx194_2
        have hw194_1 := hx194_1
        have hw194_0 := hx194_0
        cases e194
        replace hx194_0 := (HB.out.cell (World.block_lt_of_cell? w _ hx194_0)).trans hx194_0
        replace hx194_1 := (HB.out.cell (World.block_lt_of_cell? w _ hx194_1)).trans hx194_1
        replace hx194_2 := (HB.out.cell (World.block_lt_of_cell? w _ hx194_2)).trans hx194_2
        replace hx194_3 := (HB.out.cell (World.block_lt_of_cell? w _ hx194_3)).trans hx194_3
        replace hx194_4 := (HB.out.cell (World.block_lt_of_cell? w _ hx194_4)).trans hx194_4
        replace hx194_5 := (HB.out.cell (World.block_lt_of_cell? w _ hx194_5)).trans hx194_5
        have HR194_1 := zaa.mk hi194_1
        have HC194_1 := zaa.mk hl194_1
        clear hi194_1 hl194_1
        have HR194_2 := zaa.mk hi194_2
        have HC194_2 := zaa.mk hl194_2
        clear hi194_2 hl194_2
        replace p194 := eq_true p194
        replace q194 := eq_true q194
        refine start_ (n := 10) (S := fun w' => w'.cell? (ad193.add ((x5_1).toNat * 6)) = some (.int .i64 ((zae l0 x5_1).f0)) ∧ w'.cell? ⟨(ad193.add ((x5_1).toNat * 6)).block, (ad193.add ((x5_1).toNat * 6)).off + 1, none⟩ = some (.slice A193_1 ((zae l0 x5_1).f1).length c193_1) ∧ w'.cell? ⟨(ad193.add ((x5_1).toNat * 6)).block, (ad193.add ((x5_1).toNat * 6)).off + 2, none⟩ = some (.slice A193_2 ((zae l0 x5_1).f2).length c193_2) ∧ w'.cell? ⟨(ad193.add ((x5_1).toNat * 6)).block, (ad193.add ((x5_1).toNat * 6)).off + 3, none⟩ = some (.string ((zae l0 x5_1).f3)) ∧ w'.cell? ⟨(ad193.add ((x5_1).toNat * 6)).block, (ad193.add ((x5_1).toNat * 6)).off + 4, none⟩ = some (.int .i64 ((zae l0 x5_1).f4)) ∧ w'.cell? ⟨(ad193.add ((x5_1).toNat * 6)).block, (ad193.add ((x5_1).toNat * 6)).off + 5, none⟩ = some (.int .i64 ((zae l0 x5_1).f5)) ∧ w'.cell? (ad194.add ((x5_1).toNat * 6)) = some (.int .i64 ((zae l1 x5_1).f0)) ∧ w'.cell? ⟨(ad194.add ((x5_1).toNat * 6)).block, (ad194.add ((x5_1).toNat * 6)).off + 1, none⟩ = some (.slice A194_1 ((zae l1 x5_1).f1).length c194_1) ∧ w'.cell? ⟨(ad194.add ((x5_1).toNat * 6)).block, (ad194.add ((x5_1).toNat * 6)).off + 2, none⟩ = some (.slice A194_2 ((zae l1 x5_1).f2).length c194_2) ∧ w'.cell? ⟨(ad194.add ((x5_1).toNat * 6)).block, (ad194.add ((x5_1).toNat * 6)).off + 3, none⟩ = some (.string ((zae l1 x5_1).f3)) ∧ w'.cell? ⟨(ad194.add ((x5_1).toNat * 6)).block, (ad194.add ((x5_1).toNat * 6)).off + 4, none⟩ = some (.int .i64 ((zae l1 x5_1).f4)) ∧ w'.cell? ⟨(ad194.add ((x5_1).toNat * 6)).block, (ad194.add ((x5_1).toNat * 6)).off + 5, none⟩ = some (.int .i64 ((zae l1 x5_1).f5))) (ds := []) #[false, false, false, false, false, false, false, false, false, false] (by kernel_rfl) rfl rfl ⟨((HB.out.cell (World.block_lt_of_cell? w _ hw193_0)).trans hw193_0), ((HB.out.cell (World.block_lt_of_cell? w _ hw193_1)).trans hw193_1), ((HB.out.cell (World.block_lt_of_cell? w _ hw193_2)).trans hw193_2), ((HB.out.cell (World.block_lt_of_cell? w _ hw193_3)).trans hw193_3), ((HB.out.cell (World.block_lt_of_cell? w _ hw193_4)).trans hw193_4), ((HB.out.cell (World.block_lt_of_cell? w _ hw193_5)).trans hw193_5), ((HB.out.cell (World.block_lt_of_cell? w _ hw194_0)).trans hw194_0), ((HB.out.cell (World.block_lt_of_cell? w _ hw194_1)).trans hw194_1), ((HB.out.cell (World.block_lt_of_cell? w _ hw194_2)).trans hw194_2), ((HB.out.cell (World.block_lt_of_cell? w _ hw194_3)).trans hw194_3), ((HB.out.cell (World.block_lt_of_cell? w _ hw194_4)).trans hw194_4), ((HB.out.cell (World.block_lt_of_cell? w _ hw194_5)).trans hw194_5)⟩ (fun hHeld => ?_); refine with_tabW zay.tab6 zay.bits6 (fun HT_ HW_ => ?_)
        generalize wr.drew = w11 at HB HR193_1 HR193_2 HR194_1 HR194_2 hx193_0 hx193_1 hx193_2 hx193_3 hx193_4 hx193_5 hx194_0 hx194_1 hx194_2 hx194_3 hx194_4 hx194_5 hHeld ⊢
        refine zb2 (i := 0) (N := some 17) (v := ?_) (a' := ?_) #[true, false, false, false, false, false, false, false, false, false] rfl rfl (any_of HT_.out (by kernel_rfl)) (fun _ _ _ h => h) (Or.inl ⟨by rfl, ?_⟩) ?_ ?_
        rotate_left
        ·intro w'
         go_simp
         with_reducible rfl
        rotate_left
        ·simp only [Act.put, List.setIfInBounds_toArray, List.set_cons_zero, List.set_cons_succ, zbq, zbv]
         rfl
        refine zb2 (i := 1) (N := some 18) (v := ?_) (a' := ?_) #[true, true, false, false, false, false, false, false, false, false] rfl rfl (any_of HT_.out (by kernel_rfl)) (fun _ _ _ h => h) (Or.inl ⟨by rfl, ?_⟩) ?_ ?_
        rotate_left
        ·intro w'
         go_simp
         with_reducible rfl
        rotate_left
        ·simp only [Act.put, List.setIfInBounds_toArray, List.set_cons_zero, List.set_cons_succ, zbq, zbv]
         rfl
        refine zb2 (i := 2) (N := some 19) (v := ?_) (a' := ?_) #[true, true, true, false, false, false, false, false, false, false] rfl rfl (any_of HT_.out (by kernel_rfl)) (fun _ _ _ h => h) (Or.inl ⟨by rfl, ?_⟩) ?_ ?_
        rotate_left
        ·intro w'
         go_simp
         with_reducible rfl
        rotate_left
        ·simp only [Act.put, List.setIfInBounds_toArray, List.set_cons_zero, List.set_cons_succ, zbq, zbv]
         rfl
        refine zb2 (i := 4) (N := some 21) (v := ?_) (a' := ?_) #[true, true, true, false, true, false, false, false, false, false] rfl rfl (any_of HT_.out (by kernel_rfl)) (fun _ _ _ h => h) (Or.inl ⟨by rfl, ?_⟩) ?_ ?_
        rotate_left
        ·intro w'
         go_simp
         with_reducible rfl
        rotate_left
        ·simp only [Act.put, List.setIfInBounds_toArray, List.set_cons_zero, List.set_cons_succ, zbq, zbv]
         rfl
        refine zb2 (i := 5) (N := some 22) (v := ?_) (a' := ?_) #[true, true, true, false, true, true, false, false, false, false] rfl rfl (any_of HT_.out (by kernel_rfl)) (fun _ _ _ h => h) (Or.inl ⟨by rfl, ?_⟩) ?_ ?_
        rotate_left
        ·intro w'
         go_simp
         with_reducible rfl
        rotate_left
        ·simp only [Act.put, List.setIfInBounds_toArray, List.set_cons_zero, List.set_cons_succ, zbq, zbv]
         rfl
        refine zb2 (i := 6) (N := some 23) (v := ?_) (a' := ?_) #[true, true, true, false, true, true, true, false, false, false] rfl rfl (any_of HT_.out (by kernel_rfl)) (fun _ _ _ h => h) (Or.inl ⟨by rfl, ?_⟩) ?_ ?_
        rotate_left
        ·intro w'
         go_simp
         with_reducible rfl
        rotate_left
        ·simp only [Act.put, List.setIfInBounds_toArray, List.set_cons_zero, List.set_cons_succ, zbq, zbv]
         rfl
        refine take_ (i := 3) (N := some 20) (v := ?_) (a' := ?_) #[true, true, true, true, true, true, true, false, false, false] rfl rfl (take_ofW HT_.out HW_.out (by kernel_rfl)) (fun _ _ _ h => h) (Or.inl ⟨by rfl, ?_⟩) hHeld ?_ ?_
        rotate_left
        ·rintro w' ⟨s0, s1, s2, s3, s4, s5, s6, s7, s8, s9, s10, s11⟩
         go_simp
         with_reducible rfl
        rotate_left
        ·simp only [Act.put, List.setIfInBounds_toArray, List.set_cons_zero, List.set_cons_succ, zbq, zbv]
         rfl
        refine take_ (i := 7) (N := some 24) (v := ?_) (a' := ?_) #[true, true, true, true, true, true, true, true, false, false] rfl rfl (take_ofW HT_.out HW_.out (by kernel_rfl)) (fun _ _ _ h => h) (Or.inl ⟨by rfl, ?_⟩) hHeld ?_ ?_
        rotate_left
        ·rintro w' ⟨s0, s1, s2, s3, s4, s5, s6, s7, s8, s9, s10, s11⟩
         go_simp
         with_reducible rfl
        rotate_left
        ·simp only [Act.put, List.setIfInBounds_toArray, List.set_cons_zero, List.set_cons_succ, zbq, zbv]
         rfl
        refine one_ (i := 8) (N := some 25) #[true, true, true, true, true, true, true, true, true, false] rfl rfl (one_of HT_.out (by kernel_rfl)) (by decide) (fun K hK => ?_)
        refine goes_ Try.func18 (by kernel_rfl) rfl #[.agg #[.int .i64 ((zae l0 x5_1).f0), .slice A193_1 ((zae l0 x5_1).f1).length c193_1, .slice A193_2 ((zae l0 x5_1).f2).length c193_2, .string ((zae l0 x5_1).f3), .int .i64 ((zae l0 x5_1).f4), .int .i64 ((zae l0 x5_1).f5)], .agg #[.int .i64 ((zae l1 x5_1).f0), .slice A194_1 ((zae l1 x5_1).f1).length c194_1, .slice A194_2 ((zae l1 x5_1).f2).length c194_2, .string ((zae l1 x5_1).f3), .int .i64 ((zae l1 x5_1).f4), .int .i64 ((zae l1 x5_1).f5)]] (by rfl) rfl rfl (by (try simp only [List.map_toArray, List.map_cons, List.map_nil]); first | done | rfl | (simp only [List.length_drop, List.length_take]; rfl)) ?_
        with_reducible refine (zaB.calls k1 ((zae l0 x5_1).f0) _ _ ((zae l0 x5_1).f1) _ _ ((zae l0 x5_1).f2) ((zae l0 x5_1).f3) ((zae l0 x5_1).f4) ((zae l0 x5_1).f5) ((zae l1 x5_1).f0) _ _ ((zae l1 x5_1).f1) _ _ ((zae l1 x5_1).f2) ((zae l1 x5_1).f3) ((zae l1 x5_1).f4) ((zae l1 x5_1).f5) false _ ?side1 ?side2 ?side3 ?side4 ?side5 ?side6 ?side7 ?side8 A7.out).mono ?_
        (case side1 => repeat (first | exact (Kd.C_below HR193_1.out HB.out) | (with_reducible refine Kd.C_alloc ?_ _) | (with_reducible refine Kd.C_drewN ?_ _) | (with_reducible refine Kd.C_drew ?_)))
        (case side2 => exact HC193_1.out)
        (case side3 => repeat (first | exact (Kd.C_below HR193_2.out HB.out) | (with_reducible refine Kd.C_alloc ?_ _) | (with_reducible refine Kd.C_drewN ?_ _) | (with_reducible refine Kd.C_drew ?_)))
        (case side4 => exact HC193_2.out)
        (case side5 => repeat (first | exact (Kd.C_below HR194_1.out HB.out) | (with_reducible refine Kd.C_alloc ?_ _) | (with_reducible refine Kd.C_drewN ?_ _) | (with_reducible refine Kd.C_drew ?_)))
        (case side6 => exact HC194_1.out)
        (case side7 => repeat (first | exact (Kd.C_below HR194_2.out HB.out) | (with_reducible refine Kd.C_alloc ?_ _) | (with_reducible refine Kd.C_drewN ?_ _) | (with_reducible refine Kd.C_drew ?_)))
        (case side8 => exact HC194_2.out)
        rintro e w12 ⟨rfl, hb⟩
        refine ⟨_, rfl, ?_⟩
        have n0_ := zaa.mk (zai (by repeat (first | (with_reducible first | exact HB.out | apply zac | apply zab | apply zad) | exact HB.out)) hb)
        clear HB
        have HB := n0_
        clear n0_
        (try clear hb)
        (try clear hb2)
        (try clear hk)
        (try clear hi)
        refine hK.out _ _ ⟨((HB.out.cell (World.block_lt_of_cell? w _ hw193_0)).trans hw193_0), ((HB.out.cell (World.block_lt_of_cell? w _ hw193_1)).trans hw193_1), ((HB.out.cell (World.block_lt_of_cell? w _ hw193_2)).trans hw193_2), ((HB.out.cell (World.block_lt_of_cell? w _ hw193_3)).trans hw193_3), ((HB.out.cell (World.block_lt_of_cell? w _ hw193_4)).trans hw193_4), ((HB.out.cell (World.block_lt_of_cell? w _ hw193_5)).trans hw193_5), ((HB.out.cell (World.block_lt_of_cell? w _ hw194_0)).trans hw194_0), ((HB.out.cell (World.block_lt_of_cell? w _ hw194_1)).trans hw194_1), ((HB.out.cell (World.block_lt_of_cell? w _ hw194_2)).trans hw194_2), ((HB.out.cell (World.block_lt_of_cell? w _ hw194_3)).trans hw194_3), ((HB.out.cell (World.block_lt_of_cell? w _ hw194_4)).trans hw194_4), ((HB.out.cell (World.block_lt_of_cell? w _ hw194_5)).trans hw194_5)⟩ (fun hHeld => ?_)
        clear hK K
        refine norm_ (a' := ?_) ?_ ?_
        rotate_left
        ·show Act.put _ (some 25) _ = _
         simp only [Act.put, List.setIfInBounds_toArray, List.set_cons_zero, List.set_cons_succ, zbq, zbv]
         rfl
        refine zb2 (i := 9) (N := some 26) (v := ?_) (a' := ?_) #[true, true, true, true, true, true, true, true, true, true] rfl rfl (any_of HT_.out (by kernel_rfl)) (fun _ _ _ h => h) (Or.inl ⟨by rfl, ?_⟩) ?_ ?_
        rotate_left
        ·intro w'
         go_simp
         with_reducible rfl
        rotate_left
        ·simp only [Act.put, List.setIfInBounds_toArray, List.set_cons_zero, List.set_cons_succ, zbq, zbv]
         rfl
        refine done_ (done_of HT_.out (by kernel_rfl)) ?_
        try go_wp2
        go_ret
        exact ⟨by first | rfl | (simp [zas, zar] <;> rfl) | (simp [*, zas, zar] <;> rfl), by repeat (first | (with_reducible first | exact HB.out | apply zac | apply zab | apply zad) | exact HB.out)⟩
      ·rw [if_neg c6] at H
       exact absurd H (by simp)
     ·rw [if_neg c5] at H
      exact absurd H (by simp)
    ·rw [if_neg c4] at H
     have c4b0 : decide (x5_1 < (l0.length : Int)) = false := decide_eq_false c4
     clear c4
     obtain rfl := Option.some.inj H
     go_wp2
     go_ret
     exact ⟨by first | rfl | (simp [zas, zar] <;> rfl) | (simp [*, zas, zar] <;> rfl), by repeat (first | (with_reducible first | exact HB.out | apply zac | apply zab | apply zad) | exact HB.out)⟩
 ·rw [if_neg c3] at H
  have c3b0 : ((l0.length : Int) == (l1.length : Int)) = false := beq_eq_false_iff_ne.mpr c3
  have c3b1 : ((l0.length : Int) != (l1.length : Int)) = true := bne_iff_ne.mpr c3
  have c3b2 : (l0.length == l1.length) = false := by first | simpa using c3 | (simp at c3 ⊢; omega)
  obtain rfl := Option.some.inj H
  go_enter Try.func36, Try.ntmps36
  go_wp2
  go_ret
  exact ⟨by first | rfl | (simp [zas, zar] <;> rfl) | (simp [*, zas, zar] <;> rfl), by repeat (first | (with_reducible first | exact HB.out | apply zac | apply zab | apply zad) | exact HB.out)⟩
def zcd.f (k : Nat) (l0_0 : List (S45)) (l1_0 : List (S45)) : Option (Bool) := (zay.f k l0_0 l1_0).bind fun t198 => (some t198)
set_option maxHeartbeats 8000000 in
set_option maxRecDepth 100000 in
theorem zcd.calls (k : Nat) (A0_0 : Option Addr) (c0_0 : Nat) (l0_0 : List (S45)) (A1_0 : Option Addr) (c1_0 : Nat) (l1_0 : List (S45)) (r : Bool) (w : World) (hr0_0 : Kd.C k45 w A0_0 l0_0.length l0_0) (hc0_0 : l0_0.length ≤ c0_0) (hr1_0 : Kd.C k45 w A1_0 l1_0.length l1_0) (hc1_0 : l1_0.length ≤ c1_0) (h : zcd.f k l0_0 l1_0 = some r) :
  Calls Try.prog 13 #[.agg #[.slice A0_0 l0_0.length c0_0], .agg #[.slice A1_0 l1_0.length c1_0]] w fun e w' => e = .returned (.bool r) ∧ Below w.heap.size w w' := by
 have hu24 := Try.underlying24
 have HR0_0 := zaa.mk hr0_0
 have HC0_0 := zaa.mk hc0_0
 clear hr0_0 hc0_0
 have HR1_0 := zaa.mk hr1_0
 have HC1_0 := zaa.mk hc1_0
 clear hr1_0 hc1_0
 have HB := zaa.mk (Below.refl w.heap.size w)
 have H : ((zay.f k l0_0 l1_0).bind fun t198 => (some t198)) = some r := h
 clear h
 replace H := Option.bind_eq_some_iff.mp H
 obtain ⟨t198, A30, H⟩ := H
 replace H : (some t198) = some r := H
 have A3 := zaa.mk A30
 clear A30
 obtain rfl := Option.some.inj H
 go_enter Try.func13, Try.ntmps13
 go_wp2_with (first | ((with_reducible refine zaT (N := 2) rfl ?_); refine zaN ?hg (N := 2) ?hd (cs := #[.slice A0_0 l0_0.length c0_0]) (t := 24) ?hr ?_; (case hd => rfl); (case hg => rfl); (case hr => first | (go_simp; done) | (go_simp; rfl)); intro gb196 hg w4 hbox hb; have n0_ := zaa.mk (zai (by repeat (first | (with_reducible first | exact HB.out | apply zac | apply zab | apply zad) | exact HB.out)) hb); have n1_ := zaa.mk (hbox); have n2_ := zaa.mk ((by rw [hg]; exact (zao (by repeat (first | (with_reducible first | exact HB.out | apply zac | apply zab | apply zad) | exact HB.out))) : w.heap.size ≤ gb196)); have n3_ := zaa.mk ((by rw [hg]; exact (zao (by repeat (first | (with_reducible first | exact HB.out | apply zac | apply zab | apply zad) | exact HB.out))) : w.heap.size ≤ gb196)); clear HB; have HB := n0_; have BK196 := n1_; have GW196 := n2_; have GE196 := n3_; clear n0_ n1_ n2_ n3_; clear hb hbox hg) | ((with_reducible refine zaT (N := 3) rfl ?_); refine zaN ?hg (N := 3) ?hd (cs := #[.slice A1_0 l1_0.length c1_0]) (t := 24) ?hr ?_; (case hd => rfl); (case hg => rfl); (case hr => first | (go_simp; done) | (go_simp; rfl)); intro gb197 hg w5 hbox hb; have n0_ := zaa.mk (zaq (g := gb196) (o := .cells #[.slice A0_0 l0_0.length c0_0] 24 (0, 0)) (by (with_reducible repeat (first | refine zak ?_ _ | refine zam ?_ | refine zaj ?_ _)); exact BK196.out) hb); have n1_ := zaa.mk (zai (by repeat (first | (with_reducible first | exact HB.out | apply zac | apply zab | apply zad | refine zal ?_ GE196.out) | exact HB.out)) hb); have n2_ := zaa.mk (hbox); have n3_ := zaa.mk ((by rw [hg]; exact (zao (by repeat (first | (with_reducible first | exact HB.out | apply zac | apply zab | apply zad | refine zal ?_ GE196.out) | exact HB.out))) : w.heap.size ≤ gb197)); have n4_ := zaa.mk ((by rw [hg]; exact (zao (by repeat (first | (with_reducible first | exact HB.out | apply zac | apply zab | apply zad | refine zal ?_ GE196.out) | exact HB.out))) : w.heap.size ≤ gb197)); have n5_ := zaa.mk ((by rw [hg]; exact Nat.ne_of_lt (zaV (g := gb196) (o := .cells #[.slice A0_0 l0_0.length c0_0] 24 (0, 0)) (by (with_reducible repeat (first | refine zak ?_ _ | refine zam ?_ | refine zaj ?_ _)); exact BK196.out)) : gb196 ≠ gb197)); have n6_ := zaa.mk ((by rw [hg]; exact Nat.ne_of_gt (zaV (g := gb196) (o := .cells #[.slice A0_0 l0_0.length c0_0] 24 (0, 0)) (by (with_reducible repeat (first | refine zak ?_ _ | refine zam ?_ | refine zaj ?_ _)); exact BK196.out)) : gb197 ≠ gb196)); clear BK196; clear HB; have BK196 := n0_; have HB := n1_; have BK197 := n2_; have GW197 := n3_; have GE197 := n4_; have NB196_197 := n5_; have NB197_196 := n6_; clear n0_ n1_ n2_ n3_ n4_ n5_ n6_; clear hb hbox hg; have hnb6 := NB196_197.out; have hnc6 := NB197_196.out; have hcz7_0 : w5.cell? ⟨gb196, 0, none⟩ = some (.slice A0_0 l0_0.length c0_0) := (zah BK196.out 0).trans rfl; have hfz7_0 := zaf BK196.out 0; have hcz8_0 : w5.cell? ⟨gb197, 0, none⟩ = some (.slice A1_0 l1_0.length c1_0) := (zah BK197.out 0).trans rfl; have hfz8_0 := zaf BK197.out 0) | ((with_reducible refine zaW (f := 36) rfl ?_); refine zbE (some 9) rfl rfl Try.func36 (by kernel_rfl) rfl #[.slice A0_0 l0_0.length c0_0, .slice A1_0 l1_0.length c1_0] rfl (by (try simp only [List.map_toArray, List.map_cons, List.map_nil]); first | done | rfl | (simp only [List.length_drop, List.length_take]; rfl)) ?_; (with_reducible refine (zay.calls k _ _ l0_0 _ _ l1_0 t198 _ ?side1 ?side2 ?side3 ?side4 A3.out).mono ?_); (case side1 => repeat (first | exact (Kd.C_below HR0_0.out HB.out) | (with_reducible refine Kd.C_alloc ?_ _) | (with_reducible refine Kd.C_drewN ?_ _) | (with_reducible refine Kd.C_drew ?_))); (case side2 => exact HC0_0.out); (case side3 => repeat (first | exact (Kd.C_below HR1_0.out HB.out) | (with_reducible refine Kd.C_alloc ?_ _) | (with_reducible refine Kd.C_drewN ?_ _) | (with_reducible refine Kd.C_drew ?_))); (case side4 => exact HC1_0.out); rintro e w9 ⟨rfl, hb⟩; refine ⟨_, rfl, ?_⟩; have n0_ := zaa.mk (zaq (g := gb196) (o := .cells #[.slice A0_0 l0_0.length c0_0] 24 (0, 0)) (by (with_reducible repeat (first | refine zak ?_ _ | refine zam ?_ | refine zaj ?_ _)); exact BK196.out) hb); have n1_ := zaa.mk (zaq (g := gb197) (o := .cells #[.slice A1_0 l1_0.length c1_0] 24 (0, 0)) (by (with_reducible repeat (first | refine zak ?_ _ | refine zam ?_ | refine zaj ?_ _)); exact BK197.out) hb); have n2_ := zaa.mk (zai (by repeat (first | (with_reducible first | exact HB.out | apply zac | apply zab | apply zad | refine zal ?_ GE196.out | refine zal ?_ GE197.out) | exact HB.out)) hb); clear BK196; clear BK197; clear HB; have BK196 := n0_; have BK197 := n1_; have HB := n2_; clear n0_ n1_ n2_; (try clear hb); (try clear hb2); (try clear hk); (try clear hi)))
 go_ret
 exact ⟨by first | rfl | (simp [zas, zar] <;> rfl) | (simp [*, zas, zar] <;> rfl), by repeat (first | (with_reducible first | exact HB.out | apply zac | apply zab | apply zad | refine zal ?_ GE196.out | refine zal ?_ GE197.out) | exact HB.out)⟩
def tree_Has.f (l0_0 : List (S45)) (a1 : Int) : Option (Bool) := if a1 ≥ 0 then (if a1 < (l0_0.length : Int) then (if 0 ≤ a1 then (some (((zae l0_0 a1).f0) != 0)) else (none)) else (some false)) else (some false)
set_option maxHeartbeats 8000000 in
set_option maxRecDepth 100000 in
theorem tree_Has.calls (A0_0 : Option Addr) (c0_0 : Nat) (l0_0 : List (S45)) (a1 : Int) (r : Bool) (w : World) (hr0_0 : Kd.C k45 w A0_0 l0_0.length l0_0) (hc0_0 : l0_0.length ≤ c0_0) (h : tree_Has.f l0_0 a1 = some r) :
  Calls Try.prog 65 #[.agg #[.slice A0_0 l0_0.length c0_0], .int .i64 a1] w fun e w' => e = .returned (.bool r) ∧ Below w.heap.size w w' := by
 have hu24 := Try.underlying24
 have HR0_0 := zaa.mk hr0_0
 have HC0_0 := zaa.mk hc0_0
 clear hr0_0 hc0_0
 have HB := zaa.mk (Below.refl w.heap.size w)
 have H : (if a1 ≥ 0 then (if a1 < (l0_0.length : Int) then (if 0 ≤ a1 then (some (((zae l0_0 a1).f0) != 0)) else (none)) else (some false)) else (some false)) = some r := h
 clear h
 by_cases c3 : a1 ≥ 0
 ·rw [if_pos c3] at H
  have c3b0 : decide (0 ≤ a1) = true := decide_eq_true c3
  clear c3
  by_cases c4 : a1 < (l0_0.length : Int)
  ·rw [if_pos c4] at H
   have c4b0 : decide (a1 < (l0_0.length : Int)) = true := decide_eq_true c4
   clear c4
   by_cases c5 : 0 ≤ a1
   ·rw [if_pos c5] at H
    have c5b0 : decide (0 ≤ a1) = true := decide_eq_true c5
    clear c5
    obtain rfl := Option.some.inj H
    go_enter Try.func65, Try.ntmps65
    go_wp2_with (first | ((with_reducible refine zaT (N := 2) rfl ?_); (try (refine zbB (by rfl) ?_; dsimp only)); refine zaN ?hg (N := 2) ?hd (cs := #[.slice A0_0 l0_0.length c0_0]) (t := 24) ?hr ?_; (case hd => rfl); (case hg => rfl); (case hr => first | (go_simp; done) | (go_simp; rfl)); intro gb199 hg w6 hbox hb; have n0_ := zaa.mk (zai (by repeat (first | (with_reducible first | exact HB.out | apply zac | apply zab | apply zad) | exact HB.out)) hb); have n1_ := zaa.mk (hbox); have n2_ := zaa.mk ((by rw [hg]; exact (zao (by repeat (first | (with_reducible first | exact HB.out | apply zac | apply zab | apply zad) | exact HB.out))) : w.heap.size ≤ gb199)); have n3_ := zaa.mk ((by rw [hg]; exact (zao (by repeat (first | (with_reducible first | exact HB.out | apply zac | apply zab | apply zad) | exact HB.out))) : w.heap.size ≤ gb199)); clear HB; have HB := n0_; have BK199 := n1_; have GW199 := n2_; have GE199 := n3_; clear n0_ n1_ n2_ n3_; clear hb hbox hg; have hcz7_0 : w6.cell? ⟨gb199, 0, none⟩ = some (.slice A0_0 l0_0.length c0_0) := (zah BK199.out 0).trans rfl; have hfz7_0 := zaf BK199.out 0; have p200 : 0 ≤ (a1 : Int) := of_decide_eq_true (by first | (with_reducible assumption) | assumption); have q200 : a1 < (l0_0.length : Int) := of_decide_eq_true (by first | (with_reducible assumption) | assumption); obtain ⟨ad200, A200_1, c200_1, A200_2, c200_2, e200, hx200_0, hx200_1, hx200_2, hx200_3, hx200_4, hx200_5, hl200_1, hi200_1, hl200_2, hi200_2⟩ := zbn HR0_0.out a1 p200 q200; cases e200; replace hx200_0 := (HB.out.cell (World.block_lt_of_cell? w _ hx200_0)).trans hx200_0; replace hx200_1 := (HB.out.cell (World.block_lt_of_cell? w _ hx200_1)).trans hx200_1; replace hx200_2 := (HB.out.cell (World.block_lt_of_cell? w _ hx200_2)).trans hx200_2; replace hx200_3 := (HB.out.cell (World.block_lt_of_cell? w _ hx200_3)).trans hx200_3; replace hx200_4 := (HB.out.cell (World.block_lt_of_cell? w _ hx200_4)).trans hx200_4; replace hx200_5 := (HB.out.cell (World.block_lt_of_cell? w _ hx200_5)).trans hx200_5; have HR200_1 := zaa.mk hi200_1; have HC200_1 := zaa.mk hl200_1; clear hi200_1 hl200_1; have HR200_2 := zaa.mk hi200_2; have HC200_2 := zaa.mk hl200_2; clear hi200_2 hl200_2; replace p200 := eq_true p200; replace q200 := eq_true q200))
    go_ret
    exact ⟨by first | rfl | (simp [zas, zar] <;> rfl) | (simp [*, zas, zar] <;> rfl), by repeat (first | (with_reducible first | exact HB.out | apply zac | apply zab | apply zad | refine zal ?_ GE199.out) | exact HB.out)⟩
   ·rw [if_neg c5] at H
    exact absurd H (by simp)
  ·rw [if_neg c4] at H
   have c4b0 : decide (a1 < (l0_0.length : Int)) = false := decide_eq_false c4
   clear c4
   obtain rfl := Option.some.inj H
   go_enter Try.func65, Try.ntmps65
   go_wp2_with (first | ((with_reducible refine zaT (N := 2) rfl ?_); (try (refine zbB (by rfl) ?_; dsimp only)); refine zaN ?hg (N := 2) ?hd (cs := #[.slice A0_0 l0_0.length c0_0]) (t := 24) ?hr ?_; (case hd => rfl); (case hg => rfl); (case hr => first | (go_simp; done) | (go_simp; rfl)); intro gb199 hg w8 hbox hb; have n0_ := zaa.mk (zai (by repeat (first | (with_reducible first | exact HB.out | apply zac | apply zab | apply zad) | exact HB.out)) hb); have n1_ := zaa.mk (hbox); have n2_ := zaa.mk ((by rw [hg]; exact (zao (by repeat (first | (with_reducible first | exact HB.out | apply zac | apply zab | apply zad) | exact HB.out))) : w.heap.size ≤ gb199)); have n3_ := zaa.mk ((by rw [hg]; exact (zao (by repeat (first | (with_reducible first | exact HB.out | apply zac | apply zab | apply zad) | exact HB.out))) : w.heap.size ≤ gb199)); clear HB; have HB := n0_; have BK199 := n1_; have GW199 := n2_; have GE199 := n3_; clear n0_ n1_ n2_ n3_; clear hb hbox hg; have hcz9_0 : w8.cell? ⟨gb199, 0, none⟩ = some (.slice A0_0 l0_0.length c0_0) := (zah BK199.out 0).trans rfl; have hfz9_0 := zaf BK199.out 0))
   go_ret
   exact ⟨by first | rfl | (simp [zas, zar] <;> rfl) | (simp [*, zas, zar] <;> rfl), by repeat (first | (with_reducible first | exact HB.out | apply zac | apply zab | apply zad | refine zal ?_ GE199.out) | exact HB.out)⟩
 ·rw [if_neg c3] at H
  have c3b0 : decide (0 ≤ a1) = false := decide_eq_false c3
  clear c3
  obtain rfl := Option.some.inj H
  go_enter Try.func65, Try.ntmps65
  go_wp2_with (first | ((with_reducible refine zaT (N := 2) rfl ?_); (try (refine zbB (by rfl) ?_; dsimp only)); refine zaN ?hg (N := 2) ?hd (cs := #[.slice A0_0 l0_0.length c0_0]) (t := 24) ?hr ?_; (case hd => rfl); (case hg => rfl); (case hr => first | (go_simp; done) | (go_simp; rfl)); intro gb199 hg w10 hbox hb; have n0_ := zaa.mk (zai (by repeat (first | (with_reducible first | exact HB.out | apply zac | apply zab | apply zad) | exact HB.out)) hb); have n1_ := zaa.mk (hbox); have n2_ := zaa.mk ((by rw [hg]; exact (zao (by repeat (first | (with_reducible first | exact HB.out | apply zac | apply zab | apply zad) | exact HB.out))) : w.heap.size ≤ gb199)); have n3_ := zaa.mk ((by rw [hg]; exact (zao (by repeat (first | (with_reducible first | exact HB.out | apply zac | apply zab | apply zad) | exact HB.out))) : w.heap.size ≤ gb199)); clear HB; have HB := n0_; have BK199 := n1_; have GW199 := n2_; have GE199 := n3_; clear n0_ n1_ n2_ n3_; clear hb hbox hg))
  go_ret
  exact ⟨by first | rfl | (simp [zas, zar] <;> rfl) | (simp [*, zas, zar] <;> rfl), by repeat (first | (with_reducible first | exact HB.out | apply zac | apply zab | apply zad | refine zal ?_ GE199.out) | exact HB.out)⟩
def zaQ.l0 : Nat → List Int → List Int → Int → Option (List Int)
 | 0, _, _, _ => none
 | k + 1, x0, x3, x4 => if x4 < (x0.length : Int) then (if 0 ≤ x4 then (if x3.length < 140737488355328 then (zaQ.l0 k x0 (x3 ++ [rd x0 x4]) (wrap64 (x4 + 1))) else (none)) else (none)) else (some x3)
def zaQ.f (k : Nat) (l0 : List Int) : Option (List Int) := zaQ.l0 k l0 ([] : List Int) 0
set_option maxHeartbeats 8000000 in
set_option maxRecDepth 100000 in
theorem zaQ.calls (k : Nat) (A0 : Option Addr) (c0 : Nat) (l0 : List Int) (r : List Int) (w : World) (hr0 : Kd.C (Kd.int .u8) w A0 l0.length l0) (hc0 : l0.length ≤ c0) (h : zaQ.f k l0 = some r) :
  Calls Try.prog 70 #[.slice A0 l0.length c0] w fun e w' => ∃ v0_ : Value, e = .returned (v0_) ∧ Kd.R (Kd.int .u8) 5 w' w.heap.size (fun _ => True) v0_ r ∧ Below w.heap.size w w' := by
 have HR0 := zaa.mk hr0
 have HC0 := zaa.mk hc0
 clear hr0 hc0
 have HB := zaa.mk (Below.refl w.heap.size w)
 have H : (zaQ.l0 k l0 ([] : List Int) 0) = some r := h
 clear h
 have H' := zaa.mk H
 clear H
 go_enter Try.func70, Try.ntmps70
 go_wp2
 go_loopg [3, 4] k (fun kq v3 v4 w' => ∃ (x3_1 : List Int) (x4_1 : Int), v4 = .int .i64 x4_1 ∧ zaa (zaQ.l0 kq l0 x3_1 x4_1 = some r) ∧ zaa (kq ≤ k) ∧ zaa (Kd.R (Kd.int .u8) 5 w' w.heap.size (fun _ => True) v3 x3_1) ∧ zaa (Below w.heap.size w w'))
 case atStart => exact ⟨(([] : List Int)), (0), (by first | rfl | (simp; done) | (simp [*]; done)), H', ⟨Nat.le_refl _⟩, ⟨by first | exact Kd.R_nil _ _ _ _ _ | exact Kd.N_nil _ _ _ _ _ | exact Kd.V_nil _ _ _ _ _ | exact Kd.Q_nil _ _ _ _ _ | exact Kd.S_nil _ _ _ _ _⟩, ⟨by repeat (first | (with_reducible first | exact HB.out | apply zac | apply zab | apply zad) | exact HB.out)⟩⟩
 case round =>
  clear H'
  obtain ⟨x3_1, x4_1, rfl, HA, HK1, HO_3, HB⟩ := hrel
  cases gk with
  | zero => exact absurd HA.out (by simp [zaQ.l0])
  | succ k1 =>
   have H := HA.out
   clear HA
   simp only [zaQ.l0] at H
   by_cases c2 : x4_1 < (l0.length : Int)
   ·rw [if_pos c2] at H
    have c2b0 : decide (x4_1 < (l0.length : Int)) = true := decide_eq_true c2
    clear c2
    by_cases c3 : 0 ≤ x4_1
    ·rw [if_pos c3] at H
     have c3b0 : decide (0 ≤ x4_1) = true := decide_eq_true c3
     clear c3
     by_cases c4 : x3_1.length < 140737488355328
     ·rw [if_pos c4] at H
      have LMc4 := zaa.mk c4
      clear c4
      obtain ⟨y112, hy112⟩ : ∃ y_ : List Int, y_ = (x3_1 ++ [rd l0 x4_1]) := ⟨_, rfl⟩
      replace H : (zaQ.l0 k1 l0 y112 (wrap64 (x4_1 + 1))) = some r := by first | (rw [hy112]; with_reducible exact H) | (have H2_ := (Option.bind_some _ _).symm.trans H; rw [hy112]; with_reducible exact H2_) | (have H2_ := (Option.bind_some _ _).symm.trans H; with_reducible exact H2_) | with_reducible exact H | (rw [hy112]; exact H) | exact H
      have Ny112 := zaa.mk hy112
      clear hy112
      have H' := zaa.mk H
      clear H
      have p111 : 0 ≤ (x4_1 : Int) := of_decide_eq_true (by first | (with_reducible assumption) | assumption)
      have q111 : x4_1 < (l0.length : Int) := of_decide_eq_true (by first | (with_reducible assumption) | assumption)
      obtain ⟨ad111, e111, hx111_0⟩ := Kd.at_int HR0.out x4_1 p111 q111
      cases e111
      replace hx111_0 := (HB.out.cell (World.block_lt_of_cell? w _ hx111_0)).trans hx111_0
      replace p111 := eq_true p111
      replace q111 := eq_true q111
      go_wp2_with (first | ((with_reducible refine zcs (b := .append) (xs := #[.tmp 11, .tmp 16]) rfl ?_); at_builtin; refine Kd.R_append (Kd.int .u8) (w0 := w) w.heap.size rfl (.tmp 11) (.tmp 16) 36 5 (.int .u8 0) 1 rfl Try.underlying36 info5 rfl (by decide) (by omega) u3 x3_1 (rd l0 x4_1) [.int .u8 (rd l0 x4_1)] (fun _ => True) (fun _ => False) rfl rfl ?aP (fun _ hk => hk.elim) ?aF ?aO ?aB ?aS ?aL ?_; (case aP => exact rfl); (case aB => exact (by repeat (first | (with_reducible first | exact HB.out | apply zac | apply zab | apply zad) | exact HB.out))); (case aF => exact (fun _ _ => trivial)); (case aO => exact (by (with_reducible repeat (first | apply Kd.zbP | apply Kd.zb4 | apply Kd.zcm)); exact HO_3.out)); (case aS => exact (zao (by repeat (first | (with_reducible first | exact HB.out | apply zac | apply zab | apply zad) | exact HB.out)))); (case aL => have := LMc4.out; omega); intro v113 w5 ho hb hg hat; rw [← Ny112.out] at ho; have n0_ := zaa.mk (hb); have n1_ := zaa.mk (ho); clear HB; clear HO_3; have HB := n0_; have HO114 := n1_; clear n0_ n1_; clear ho hb hg hat))
      go_roundg k1
      case measure => have := HK1.out; omega
      case rel => exact ⟨(y112), (wrap64 (x4_1 + 1)), (by first | rfl | (simp; done) | (simp [*]; done)), H', ⟨by have := HK1.out; omega⟩, ⟨by (with_reducible repeat (first | apply Kd.zbP | apply Kd.zb4 | apply Kd.zcm)); exact HO114.out⟩, ⟨by repeat (first | (with_reducible first | exact HB.out | apply zac | apply zab | apply zad) | exact HB.out)⟩⟩
     ·rw [if_neg c4] at H
      exact absurd H (by simp)
    ·rw [if_neg c3] at H
     exact absurd H (by simp)
   ·rw [if_neg c2] at H
    have c2b0 : decide (x4_1 < (l0.length : Int)) = false := decide_eq_false c2
    clear c2
    obtain rfl := Option.some.inj H
    go_wp2
    go_ret
    exact ⟨_, by first | rfl | (simp [zas, zar] <;> rfl) | (simp [*, zas, zar] <;> rfl), by (with_reducible repeat (first | apply Kd.zbP | apply Kd.zb4 | apply Kd.zcm)); exact HO_3.out, by repeat (first | (with_reducible first | exact HB.out | apply zac | apply zab | apply zad) | exact HB.out)⟩
def zaM.l0 : Nat → List (S66) → List (S66) → Int → Option ((List (S66)))
 | 0, _, _, _ => none
 | k + 1, x0, x3, x4 => if x4 < (x0.length : Int) then (if 0 ≤ x4 then (if x3.length < 5864062014805 then (zaM.l0 k x0 (x3 ++ [(⟨(zat x0 x4).f0, (zat x0 x4).f1⟩ : S66)]) (wrap64 (x4 + 1))) else (none)) else (none)) else (some x3)
def zaM.f (k : Nat) (l0 : List (S66)) : Option ((List (S66))) := zaM.l0 k l0 ([] : List (S66)) 0
set_option maxHeartbeats 8000000 in
set_option maxRecDepth 100000 in
theorem zaM.calls (k : Nat) (A0 : Option Addr) (c0 : Nat) (l0 : List (S66)) (r : List (S66)) (w : World) (hr0 : Kd.C k66 w A0 l0.length l0) (hc0 : l0.length ≤ c0) (h : zaM.f k l0 = some r) :
  Calls Try.prog 71 #[.slice A0 l0.length c0] w fun e w' => ∃ v0_ : Value, e = .returned (v0_) ∧ Kd.R k66 66 w' w.heap.size (fun _ => True) v0_ r ∧ Below w.heap.size w w' := by
 have hu66 := Try.underlying66
 have HR0 := zaa.mk hr0
 have HC0 := zaa.mk hc0
 clear hr0 hc0
 have HB := zaa.mk (Below.refl w.heap.size w)
 have H : (zaM.l0 k l0 ([] : List (S66)) 0) = some r := h
 clear h
 have H' := zaa.mk H
 clear H
 go_enter Try.func71, Try.ntmps71
 go_wp2
 go_loopg [3, 4] k (fun kq v3 v4 w' => ∃ (x3_1 : List (S66)) (x4_1 : Int), v4 = .int .i64 x4_1 ∧ zaa (zaM.l0 kq l0 x3_1 x4_1 = some r) ∧ zaa (kq ≤ k) ∧ zaa (Kd.R k66 66 w' w.heap.size (fun _ => True) v3 x3_1) ∧ zaa (Below w.heap.size w w'))
 case atStart => exact ⟨(([] : List (S66))), (0), (by first | rfl | (simp; done) | (simp [*]; done)), H', ⟨Nat.le_refl _⟩, ⟨by first | exact Kd.R_nil _ _ _ _ _ | exact Kd.N_nil _ _ _ _ _ | exact Kd.V_nil _ _ _ _ _ | exact Kd.Q_nil _ _ _ _ _ | exact Kd.S_nil _ _ _ _ _⟩, ⟨by repeat (first | (with_reducible first | exact HB.out | apply zac | apply zab | apply zad) | exact HB.out)⟩⟩
 case round =>
  clear H'
  obtain ⟨x3_1, x4_1, rfl, HA, HK1, HO_3, HB⟩ := hrel
  cases gk with
  | zero => exact absurd HA.out (by simp [zaM.l0])
  | succ k1 =>
   have H := HA.out
   clear HA
   simp only [zaM.l0] at H
   by_cases c2 : x4_1 < (l0.length : Int)
   ·rw [if_pos c2] at H
    have c2b0 : decide (x4_1 < (l0.length : Int)) = true := decide_eq_true c2
    clear c2
    by_cases c3 : 0 ≤ x4_1
    ·rw [if_pos c3] at H
     have c3b0 : decide (0 ≤ x4_1) = true := decide_eq_true c3
     clear c3
     by_cases c4 : x3_1.length < 5864062014805
     ·rw [if_pos c4] at H
      have LMc4 := zaa.mk c4
      clear c4
      obtain ⟨y116, hy116⟩ : ∃ y_ : List (S66), y_ = (x3_1 ++ [(⟨(zat l0 x4_1).f0, (zat l0 x4_1).f1⟩ : S66)]) := ⟨_, rfl⟩
      replace H : (zaM.l0 k1 l0 y116 (wrap64 (x4_1 + 1))) = some r := by first | (rw [hy116]; with_reducible exact H) | (have H2_ := (Option.bind_some _ _).symm.trans H; rw [hy116]; with_reducible exact H2_) | (have H2_ := (Option.bind_some _ _).symm.trans H; with_reducible exact H2_) | with_reducible exact H | (rw [hy116]; exact H) | exact H
      have Ny116 := zaa.mk hy116
      clear hy116
      have H' := zaa.mk H
      clear H
      have p115 : 0 ≤ (x4_1 : Int) := of_decide_eq_true (by first | (with_reducible assumption) | assumption)
      have q115 : x4_1 < (l0.length : Int) := of_decide_eq_true (by first | (with_reducible assumption) | assumption)
      obtain ⟨ad115, e115, hx115_0, hx115_1⟩ := zce HR0.out x4_1 p115 q115
      cases e115
      replace hx115_0 := (HB.out.cell (World.block_lt_of_cell? w _ hx115_0)).trans hx115_0
      replace hx115_1 := (HB.out.cell (World.block_lt_of_cell? w _ hx115_1)).trans hx115_1
      replace p115 := eq_true p115
      replace q115 := eq_true q115
      go_wp2_with (first | ((with_reducible refine zcs (b := .append) (xs := #[.tmp 11, .tmp 16]) rfl ?_); at_builtin; refine Kd.R_append k66 (w0 := w) w.heap.size rfl (.tmp 11) (.tmp 16) 43 66 (.agg #[(.string ⟨#[]⟩), (.int .i64 0)]) 24 rfl Try.underlying43 info66 rfl (by decide) (by omega) u3 x3_1 (⟨(zat l0 x4_1).f0, (zat l0 x4_1).f1⟩ : S66) [.string ((zat l0 x4_1).f0), .int .i64 ((zat l0 x4_1).f1)] (fun _ => True) (fun _ => False) rfl rfl ?aP (fun _ hk => hk.elim) ?aF ?aO ?aB ?aS ?aL ?_; (case aP => exact k66_mkM _ _ _ (⟨(zat l0 x4_1).f0, (zat l0 x4_1).f1⟩ : S66)); (case aB => exact (by repeat (first | (with_reducible first | exact HB.out | apply zac | apply zab | apply zad) | exact HB.out))); (case aF => exact (fun _ _ => trivial)); (case aO => exact (by (with_reducible repeat (first | apply Kd.zbP | apply Kd.zb4 | apply Kd.zcm)); exact HO_3.out)); (case aS => exact (zao (by repeat (first | (with_reducible first | exact HB.out | apply zac | apply zab | apply zad) | exact HB.out)))); (case aL => have := LMc4.out; omega); intro v117 w5 ho hb hg hat; rw [← Ny116.out] at ho; have n0_ := zaa.mk (hb); have n1_ := zaa.mk (ho); clear HB; clear HO_3; have HB := n0_; have HO118 := n1_; clear n0_ n1_; clear ho hb hg hat))
      go_roundg k1
      case measure => have := HK1.out; omega
      case rel => exact ⟨(y116), (wrap64 (x4_1 + 1)), (by first | rfl | (simp; done) | (simp [*]; done)), H', ⟨by have := HK1.out; omega⟩, ⟨by (with_reducible repeat (first | apply Kd.zbP | apply Kd.zb4 | apply Kd.zcm)); exact HO118.out⟩, ⟨by repeat (first | (with_reducible first | exact HB.out | apply zac | apply zab | apply zad) | exact HB.out)⟩⟩
     ·rw [if_neg c4] at H
      exact absurd H (by simp)
    ·rw [if_neg c3] at H
     exact absurd H (by simp)
   ·rw [if_neg c2] at H
    have c2b0 : decide (x4_1 < (l0.length : Int)) = false := decide_eq_false c2
    clear c2
    obtain rfl := Option.some.inj H
    go_wp2
    go_ret
    exact ⟨_, by first | rfl | (simp [zas, zar] <;> rfl) | (simp [*, zas, zar] <;> rfl), by (with_reducible repeat (first | apply Kd.zbP | apply Kd.zb4 | apply Kd.zcm)); exact HO_3.out, by repeat (first | (with_reducible first | exact HB.out | apply zac | apply zab | apply zad) | exact HB.out)⟩
def zbI.f (k : Nat) (a0_0 : Int) (l0_1 : List Int) (l0_2 : List (S66)) (a0_3 : ByteArray) (a0_4 : Int) (a0_5 : Int) : Option (Int × List Int × (List (S66)) × ByteArray × Int × Int) := (zaQ.f k l0_1).bind fun t122 => ((zaM.f k l0_2).bind fun t125 => (some (a0_0, t122, t125, a0_3, a0_4, a0_5)))
set_option maxHeartbeats 8000000 in
set_option maxRecDepth 100000 in
theorem zbI.calls (k : Nat) (a0_0 : Int) (A0_1 : Option Addr) (c0_1 : Nat) (l0_1 : List Int) (A0_2 : Option Addr) (c0_2 : Nat) (l0_2 : List (S66)) (a0_3 : ByteArray) (a0_4 : Int) (a0_5 : Int) (r1 : Int) (r2 : List Int) (r3 : List (S66)) (r4 : ByteArray) (r5 : Int) (r6 : Int) (w : World) (hr0_1 : Kd.C (Kd.int .u8) w A0_1 l0_1.length l0_1) (hc0_1 : l0_1.length ≤ c0_1) (hr0_2 : Kd.C k66 w A0_2 l0_2.length l0_2) (hc0_2 : l0_2.length ≤ c0_2) (h : zbI.f k a0_0 l0_1 l0_2 a0_3 a0_4 a0_5 = some (r1, r2, r3, r4, r5, r6)) :
  Calls Try.prog 58 #[.agg #[.int .i64 a0_0, .slice A0_1 l0_1.length c0_1, .slice A0_2 l0_2.length c0_2, .string a0_3, .int .i64 a0_4, .int .i64 a0_5]] w fun e w' => ∃ v1_ v2_ : Value, e = .returned (.agg #[.int .i64 r1, v1_, v2_, .string r4, .int .i64 r5, .int .i64 r6]) ∧ Kd.R (Kd.int .u8) 5 w' w.heap.size (fun _ => True) v1_ r2 ∧ Kd.R k66 66 w' w.heap.size (fun _ => True) v2_ r3 ∧ Below w.heap.size w w' := by
 have hu45 := Try.underlying45
 have HR0_1 := zaa.mk hr0_1
 have HC0_1 := zaa.mk hc0_1
 clear hr0_1 hc0_1
 have HR0_2 := zaa.mk hr0_2
 have HC0_2 := zaa.mk hc0_2
 clear hr0_2 hc0_2
 have HB := zaa.mk (Below.refl w.heap.size w)
 have H : ((zaQ.f k l0_1).bind fun t122 => ((zaM.f k l0_2).bind fun t125 => (some (a0_0, t122, t125, a0_3, a0_4, a0_5)))) = some (r1, r2, r3, r4, r5, r6) := h
 clear h
 replace H := Option.bind_eq_some_iff.mp H
 obtain ⟨t122, A20, H⟩ := H
 replace H : ((zaM.f k l0_2).bind fun t125 => (some (a0_0, t122, t125, a0_3, a0_4, a0_5))) = some (r1, r2, r3, r4, r5, r6) := H
 have A2 := zaa.mk A20
 clear A20
 replace H := Option.bind_eq_some_iff.mp H
 obtain ⟨t125, A30, H⟩ := H
 replace H : (some (a0_0, t122, t125, a0_3, a0_4, a0_5)) = some (r1, r2, r3, r4, r5, r6) := H
 have A3 := zaa.mk A30
 clear A30
 simp only [Option.some.injEq, Prod.mk.injEq] at H
 obtain ⟨rfl, rfl, rfl, rfl, rfl, rfl⟩ := H
 go_enter Try.func58, Try.ntmps58
 go_wp2_with (first | ((with_reducible refine zaT (N := 1) rfl ?_); refine zaN ?hg (N := 1) ?hd (cs := #[.int .i64 a0_0, .slice A0_1 l0_1.length c0_1, .slice A0_2 l0_2.length c0_2, .string a0_3, .int .i64 a0_4, .int .i64 a0_5]) (t := 45) ?hr ?_; (case hd => rfl); (case hg => rfl); (case hr => first | (go_simp; done) | (go_simp; rfl)); intro gb119 hg w4 hbox hb; have n0_ := zaa.mk (zai (by repeat (first | (with_reducible first | exact HB.out | apply zac | apply zab | apply zad) | exact HB.out)) hb); have n1_ := zaa.mk (hbox); have n2_ := zaa.mk ((by rw [hg]; exact (zao (by repeat (first | (with_reducible first | exact HB.out | apply zac | apply zab | apply zad) | exact HB.out))) : w.heap.size ≤ gb119)); have n3_ := zaa.mk ((by rw [hg]; exact (zao (by repeat (first | (with_reducible first | exact HB.out | apply zac | apply zab | apply zad) | exact HB.out))) : w.heap.size ≤ gb119)); clear HB; have HB := n0_; have BK119 := n1_; have GW119 := n2_; have GE119 := n3_; clear n0_ n1_ n2_ n3_; clear hb hbox hg) | ((with_reducible refine zaT (N := 2) rfl ?_); refine zaN ?hg (N := 2) ?hd (cs := #[.int .i64 0, .slice none 0 0, .slice none 0 0, .string (⟨#[]⟩ : ByteArray), .int .i64 0, .int .i64 0]) (t := 45) ?hr ?_; (case hd => rfl); (case hg => rfl); (case hr => first | (go_simp; done) | (go_simp; rfl)); intro gb120 hg w5 hbox hb; have n0_ := zaa.mk (zaq (g := gb119) (o := .cells #[.int .i64 a0_0, .slice A0_1 l0_1.length c0_1, .slice A0_2 l0_2.length c0_2, .string a0_3, .int .i64 a0_4, .int .i64 a0_5] 45 (0, 0)) (by (with_reducible repeat (first | refine zak ?_ _ | refine zam ?_ | refine zaj ?_ _)); exact BK119.out) hb); have n1_ := zaa.mk (zai (by repeat (first | (with_reducible first | exact HB.out | apply zac | apply zab | apply zad | refine zal ?_ GE119.out) | exact HB.out)) hb); have n2_ := zaa.mk (hbox); have n3_ := zaa.mk ((by rw [hg]; exact (zao (by repeat (first | (with_reducible first | exact HB.out | apply zac | apply zab | apply zad | refine zal ?_ GE119.out) | exact HB.out))) : w.heap.size ≤ gb120)); have n4_ := zaa.mk ((by rw [hg]; exact (zao (by repeat (first | (with_reducible first | exact HB.out | apply zac | apply zab | apply zad | refine zal ?_ GE119.out) | exact HB.out))) : w.heap.size ≤ gb120)); have n5_ := zaa.mk ((by rw [hg]; exact Nat.ne_of_lt (zaV (g := gb119) (o := .cells #[.int .i64 a0_0, .slice A0_1 l0_1.length c0_1, .slice A0_2 l0_2.length c0_2, .string a0_3, .int .i64 a0_4, .int .i64 a0_5] 45 (0, 0)) (by (with_reducible repeat (first | refine zak ?_ _ | refine zam ?_ | refine zaj ?_ _)); exact BK119.out)) : gb119 ≠ gb120)); have n6_ := zaa.mk ((by rw [hg]; exact Nat.ne_of_gt (zaV (g := gb119) (o := .cells #[.int .i64 a0_0, .slice A0_1 l0_1.length c0_1, .slice A0_2 l0_2.length c0_2, .string a0_3, .int .i64 a0_4, .int .i64 a0_5] 45 (0, 0)) (by (with_reducible repeat (first | refine zak ?_ _ | refine zam ?_ | refine zaj ?_ _)); exact BK119.out)) : gb120 ≠ gb119)); clear BK119; clear HB; have BK119 := n0_; have HB := n1_; have BK120 := n2_; have GW120 := n3_; have GE120 := n4_; have NB119_120 := n5_; have NB120_119 := n6_; clear n0_ n1_ n2_ n3_ n4_ n5_ n6_; clear hb hbox hg; have hnb6 := NB119_120.out; have hnc6 := NB120_119.out; have hcz7_0 : w5.cell? ⟨gb119, 0, none⟩ = some (.int .i64 a0_0) := (zah BK119.out 0).trans rfl; have hcz7_1 : w5.cell? ⟨gb119, 1, none⟩ = some (.slice A0_1 l0_1.length c0_1) := (zah BK119.out 1).trans rfl; have hcz7_2 : w5.cell? ⟨gb119, 2, none⟩ = some (.slice A0_2 l0_2.length c0_2) := (zah BK119.out 2).trans rfl; have hcz7_3 : w5.cell? ⟨gb119, 3, none⟩ = some (.string a0_3) := (zah BK119.out 3).trans rfl; have hcz7_4 : w5.cell? ⟨gb119, 4, none⟩ = some (.int .i64 a0_4) := (zah BK119.out 4).trans rfl; have hcz7_5 : w5.cell? ⟨gb119, 5, none⟩ = some (.int .i64 a0_5) := (zah BK119.out 5).trans rfl; have hfz7_0 := zaf BK119.out 0; have hfz7_1 := zaf BK119.out 1; have hfz7_2 := zaf BK119.out 2; have hfz7_3 := zaf BK119.out 3; have hfz7_4 := zaf BK119.out 4; have hfz7_5 := zaf BK119.out 5) | ((with_reducible refine zaT (N := 3) rfl ?_); refine zaN ?hg (N := 3) ?hd (cs := #[.int .i64 0, .slice none 0 0, .slice none 0 0, .string (⟨#[]⟩ : ByteArray), .int .i64 0, .int .i64 0]) (t := 45) ?hr ?_; (case hd => rfl); (case hg => rfl); (case hr => first | (go_simp; done) | (go_simp; rfl)); intro gb121 hg w8 hbox hb; have n0_ := zaa.mk (zaq (g := gb119) (o := .cells #[.int .i64 a0_0, .slice A0_1 l0_1.length c0_1, .slice A0_2 l0_2.length c0_2, .string a0_3, .int .i64 a0_4, .int .i64 a0_5] 45 (0, 0)) (by (with_reducible repeat (first | refine zak ?_ _ | refine zam ?_ | refine zaj ?_ _)); exact BK119.out) hb); have n1_ := zaa.mk (zaq (g := gb120) (o := .cells #[.int .i64 0, .slice none 0 0, .slice none 0 0, .string (⟨#[]⟩ : ByteArray), .int .i64 0, .int .i64 0] 45 (0, 0)) (by (with_reducible repeat (first | refine zak ?_ _ | refine zam ?_ | refine zaj ?_ _)); exact BK120.out) hb); have n2_ := zaa.mk (zai (by repeat (first | (with_reducible first | exact HB.out | apply zac | apply zab | apply zad | refine zal ?_ GE119.out | refine zal ?_ GE120.out) | exact HB.out)) hb); have n3_ := zaa.mk (hbox); have n4_ := zaa.mk ((by rw [hg]; exact (zao (by repeat (first | (with_reducible first | exact HB.out | apply zac | apply zab | apply zad | refine zal ?_ GE119.out | refine zal ?_ GE120.out) | exact HB.out))) : w.heap.size ≤ gb121)); have n5_ := zaa.mk ((by rw [hg]; exact (zao (by repeat (first | (with_reducible first | exact HB.out | apply zac | apply zab | apply zad | refine zal ?_ GE119.out | refine zal ?_ GE120.out) | exact HB.out))) : w.heap.size ≤ gb121)); have n6_ := zaa.mk ((by rw [hg]; exact Nat.ne_of_lt (zaV (g := gb119) (o := .cells #[.int .i64 a0_0, .slice A0_1 l0_1.length c0_1, .slice A0_2 l0_2.length c0_2, .string a0_3, .int .i64 a0_4, .int .i64 a0_5] 45 (0, 0)) (by (with_reducible repeat (first | refine zak ?_ _ | refine zam ?_ | refine zaj ?_ _)); exact BK119.out)) : gb119 ≠ gb121)); have n7_ := zaa.mk ((by rw [hg]; exact Nat.ne_of_gt (zaV (g := gb119) (o := .cells #[.int .i64 a0_0, .slice A0_1 l0_1.length c0_1, .slice A0_2 l0_2.length c0_2, .string a0_3, .int .i64 a0_4, .int .i64 a0_5] 45 (0, 0)) (by (with_reducible repeat (first | refine zak ?_ _ | refine zam ?_ | refine zaj ?_ _)); exact BK119.out)) : gb121 ≠ gb119)); have n8_ := zaa.mk ((by rw [hg]; exact Nat.ne_of_lt (zaV (g := gb120) (o := .cells #[.int .i64 0, .slice none 0 0, .slice none 0 0, .string (⟨#[]⟩ : ByteArray), .int .i64 0, .int .i64 0] 45 (0, 0)) (by (with_reducible repeat (first | refine zak ?_ _ | refine zam ?_ | refine zaj ?_ _)); exact BK120.out)) : gb120 ≠ gb121)); have n9_ := zaa.mk ((by rw [hg]; exact Nat.ne_of_gt (zaV (g := gb120) (o := .cells #[.int .i64 0, .slice none 0 0, .slice none 0 0, .string (⟨#[]⟩ : ByteArray), .int .i64 0, .int .i64 0] 45 (0, 0)) (by (with_reducible repeat (first | refine zak ?_ _ | refine zam ?_ | refine zaj ?_ _)); exact BK120.out)) : gb121 ≠ gb120)); clear BK119; clear BK120; clear HB; have BK119 := n0_; have BK120 := n1_; have HB := n2_; have BK121 := n3_; have GW121 := n4_; have GE121 := n5_; have NB119_121 := n6_; have NB121_119 := n7_; have NB120_121 := n8_; have NB121_120 := n9_; clear n0_ n1_ n2_ n3_ n4_ n5_ n6_ n7_ n8_ n9_; clear hb hbox hg; have hnb9 := NB121_119.out; have hnc9 := NB119_121.out; have hnb10 := NB121_120.out; have hnc10 := NB120_121.out; have hcz11_0 : w8.cell? ⟨gb121, 0, none⟩ = some (.int .i64 0) := (zah BK121.out 0).trans rfl; have hcz11_1 : w8.cell? ⟨gb121, 1, none⟩ = some (.slice none 0 0) := (zah BK121.out 1).trans rfl; have hcz11_2 : w8.cell? ⟨gb121, 2, none⟩ = some (.slice none 0 0) := (zah BK121.out 2).trans rfl; have hcz11_3 : w8.cell? ⟨gb121, 3, none⟩ = some (.string (⟨#[]⟩ : ByteArray)) := (zah BK121.out 3).trans rfl; have hcz11_4 : w8.cell? ⟨gb121, 4, none⟩ = some (.int .i64 0) := (zah BK121.out 4).trans rfl; have hcz11_5 : w8.cell? ⟨gb121, 5, none⟩ = some (.int .i64 0) := (zah BK121.out 5).trans rfl; have hfz11_0 := zaf BK121.out 0; have hfz11_1 := zaf BK121.out 1; have hfz11_2 := zaf BK121.out 2; have hfz11_3 := zaf BK121.out 3; have hfz11_4 := zaf BK121.out 4; have hfz11_5 := zaf BK121.out 5; have hcz12_0 : w8.cell? ⟨gb119, 0, none⟩ = some (.int .i64 a0_0) := (zah BK119.out 0).trans rfl; have hcz12_1 : w8.cell? ⟨gb119, 1, none⟩ = some (.slice A0_1 l0_1.length c0_1) := (zah BK119.out 1).trans rfl; have hcz12_2 : w8.cell? ⟨gb119, 2, none⟩ = some (.slice A0_2 l0_2.length c0_2) := (zah BK119.out 2).trans rfl; have hcz12_3 : w8.cell? ⟨gb119, 3, none⟩ = some (.string a0_3) := (zah BK119.out 3).trans rfl; have hcz12_4 : w8.cell? ⟨gb119, 4, none⟩ = some (.int .i64 a0_4) := (zah BK119.out 4).trans rfl; have hcz12_5 : w8.cell? ⟨gb119, 5, none⟩ = some (.int .i64 a0_5) := (zah BK119.out 5).trans rfl; have hfz12_0 := zaf BK119.out 0; have hfz12_1 := zaf BK119.out 1; have hfz12_2 := zaf BK119.out 2; have hfz12_3 := zaf BK119.out 3; have hfz12_4 := zaf BK119.out 4; have hfz12_5 := zaf BK119.out 5) | ((with_reducible refine zaW (f := 70) rfl ?_); refine zbE (some 7) rfl rfl Try.func70 (by kernel_rfl) rfl #[.slice A0_1 l0_1.length c0_1] rfl (by (try simp only [List.map_toArray, List.map_cons, List.map_nil]); first | done | rfl | (simp only [List.length_drop, List.length_take]; rfl)) ?_; (with_reducible refine (zaQ.calls k _ _ l0_1 t122 _ ?side1 ?side2 A2.out).mono ?_); (case side1 => exact Kd.C_below HR0_1.out (by repeat (first | (with_reducible first | exact HB.out | apply zac | apply zab | apply zad | refine zal ?_ GE119.out | refine zal ?_ GE120.out | refine zal ?_ GE121.out) | exact HB.out))); (case side2 => exact HC0_1.out); rintro e w13 ⟨v123, rfl, ho0, hb⟩; refine ⟨_, rfl, ?_⟩; have n0_ := zaa.mk (Kd.R_lower ho0 (zao (by repeat (first | (with_reducible first | exact HB.out | apply zac | apply zab | apply zad | refine zal ?_ GE119.out | refine zal ?_ GE120.out | refine zal ?_ GE121.out) | exact HB.out)))); have n1_ := zaa.mk (zaq (g := gb119) (o := .cells #[.int .i64 a0_0, .slice A0_1 l0_1.length c0_1, .slice A0_2 l0_2.length c0_2, .string a0_3, .int .i64 a0_4, .int .i64 a0_5] 45 (0, 0)) (by (with_reducible repeat (first | refine zak ?_ _ | refine zam ?_ | refine zaj ?_ _)); refine zaC ?_ NB119_121.out _; (with_reducible repeat (first | refine zak ?_ _ | refine zam ?_ | refine zaj ?_ _)); refine zaC ?_ NB119_121.out _; (with_reducible repeat (first | refine zak ?_ _ | refine zam ?_ | refine zaj ?_ _)); refine zaC ?_ NB119_121.out _; (with_reducible repeat (first | refine zak ?_ _ | refine zam ?_ | refine zaj ?_ _)); refine zaC ?_ NB119_121.out _; (with_reducible repeat (first | refine zak ?_ _ | refine zam ?_ | refine zaj ?_ _)); refine zaC ?_ NB119_121.out _; (with_reducible repeat (first | refine zak ?_ _ | refine zam ?_ | refine zaj ?_ _)); refine zaC ?_ NB119_121.out _; (with_reducible repeat (first | refine zak ?_ _ | refine zam ?_ | refine zaj ?_ _)); exact BK119.out) hb); have n2_ := zaa.mk (zaq (g := gb120) (o := .cells #[.int .i64 0, .slice none 0 0, .slice none 0 0, .string (⟨#[]⟩ : ByteArray), .int .i64 0, .int .i64 0] 45 (0, 0)) (by (with_reducible repeat (first | refine zak ?_ _ | refine zam ?_ | refine zaj ?_ _)); refine zaC ?_ NB120_121.out _; (with_reducible repeat (first | refine zak ?_ _ | refine zam ?_ | refine zaj ?_ _)); refine zaC ?_ NB120_121.out _; (with_reducible repeat (first | refine zak ?_ _ | refine zam ?_ | refine zaj ?_ _)); refine zaC ?_ NB120_121.out _; (with_reducible repeat (first | refine zak ?_ _ | refine zam ?_ | refine zaj ?_ _)); refine zaC ?_ NB120_121.out _; (with_reducible repeat (first | refine zak ?_ _ | refine zam ?_ | refine zaj ?_ _)); refine zaC ?_ NB120_121.out _; (with_reducible repeat (first | refine zak ?_ _ | refine zam ?_ | refine zaj ?_ _)); refine zaC ?_ NB120_121.out _; (with_reducible repeat (first | refine zak ?_ _ | refine zam ?_ | refine zaj ?_ _)); exact BK120.out) hb); have n3_ := zaa.mk (zaq (g := gb121) (o := .cells #[.int .i64 a0_0, .slice A0_1 l0_1.length c0_1, .slice A0_2 l0_2.length c0_2, .string a0_3, .int .i64 a0_4, .int .i64 a0_5] 45 (0, 0)) (by (with_reducible repeat (first | refine zak ?_ _ | refine zam ?_ | refine zaj ?_ _)); refine zaF (cs := #[.int .i64 a0_0, .slice A0_1 l0_1.length c0_1, .slice A0_2 l0_2.length c0_2, .string a0_3, .int .i64 a0_4, .int .i64 0]) ?_ 5 _ rfl; (with_reducible repeat (first | refine zak ?_ _ | refine zam ?_ | refine zaj ?_ _)); refine zaF (cs := #[.int .i64 a0_0, .slice A0_1 l0_1.length c0_1, .slice A0_2 l0_2.length c0_2, .string a0_3, .int .i64 0, .int .i64 0]) ?_ 4 _ rfl; (with_reducible repeat (first | refine zak ?_ _ | refine zam ?_ | refine zaj ?_ _)); refine zaF (cs := #[.int .i64 a0_0, .slice A0_1 l0_1.length c0_1, .slice A0_2 l0_2.length c0_2, .string (⟨#[]⟩ : ByteArray), .int .i64 0, .int .i64 0]) ?_ 3 _ rfl; (with_reducible repeat (first | refine zak ?_ _ | refine zam ?_ | refine zaj ?_ _)); refine zaF (cs := #[.int .i64 a0_0, .slice A0_1 l0_1.length c0_1, .slice none 0 0, .string (⟨#[]⟩ : ByteArray), .int .i64 0, .int .i64 0]) ?_ 2 _ rfl; (with_reducible repeat (first | refine zak ?_ _ | refine zam ?_ | refine zaj ?_ _)); refine zaF (cs := #[.int .i64 a0_0, .slice none 0 0, .slice none 0 0, .string (⟨#[]⟩ : ByteArray), .int .i64 0, .int .i64 0]) ?_ 1 _ rfl; (with_reducible repeat (first | refine zak ?_ _ | refine zam ?_ | refine zaj ?_ _)); refine zaF (cs := #[.int .i64 0, .slice none 0 0, .slice none 0 0, .string (⟨#[]⟩ : ByteArray), .int .i64 0, .int .i64 0]) ?_ 0 _ rfl; (with_reducible repeat (first | refine zak ?_ _ | refine zam ?_ | refine zaj ?_ _)); exact BK121.out) hb); have n4_ := zaa.mk (zai (by repeat (first | (with_reducible first | exact HB.out | apply zac | apply zab | apply zad | refine zal ?_ GE119.out | refine zal ?_ GE120.out | refine zal ?_ GE121.out) | exact HB.out)) hb); clear BK119; clear BK120; clear BK121; clear HB; have HO124 := n0_; have BK119 := n1_; have BK120 := n2_; have BK121 := n3_; have HB := n4_; clear n0_ n1_ n2_ n3_ n4_; (try clear hb); (try clear hb2); (try clear hk); (try clear hi); (try clear ho0); obtain ⟨Ao14, co14, eo14⟩ := Kd.zco HO124.out; subst eo14; have hcz15_0 : w13.cell? ⟨gb121, 0, none⟩ = some (.int .i64 a0_0) := (zah BK121.out 0).trans rfl; have hcz15_1 : w13.cell? ⟨gb121, 1, none⟩ = some (.slice A0_1 l0_1.length c0_1) := (zah BK121.out 1).trans rfl; have hcz15_2 : w13.cell? ⟨gb121, 2, none⟩ = some (.slice A0_2 l0_2.length c0_2) := (zah BK121.out 2).trans rfl; have hcz15_3 : w13.cell? ⟨gb121, 3, none⟩ = some (.string a0_3) := (zah BK121.out 3).trans rfl; have hcz15_4 : w13.cell? ⟨gb121, 4, none⟩ = some (.int .i64 a0_4) := (zah BK121.out 4).trans rfl; have hcz15_5 : w13.cell? ⟨gb121, 5, none⟩ = some (.int .i64 a0_5) := (zah BK121.out 5).trans rfl; have hfz15_0 := zaf BK121.out 0; have hfz15_1 := zaf BK121.out 1; have hfz15_2 := zaf BK121.out 2; have hfz15_3 := zaf BK121.out 3; have hfz15_4 := zaf BK121.out 4; have hfz15_5 := zaf BK121.out 5; have hcz16_0 : w13.cell? ⟨gb119, 0, none⟩ = some (.int .i64 a0_0) := (zah BK119.out 0).trans rfl; have hcz16_1 : w13.cell? ⟨gb119, 1, none⟩ = some (.slice A0_1 l0_1.length c0_1) := (zah BK119.out 1).trans rfl; have hcz16_2 : w13.cell? ⟨gb119, 2, none⟩ = some (.slice A0_2 l0_2.length c0_2) := (zah BK119.out 2).trans rfl; have hcz16_3 : w13.cell? ⟨gb119, 3, none⟩ = some (.string a0_3) := (zah BK119.out 3).trans rfl; have hcz16_4 : w13.cell? ⟨gb119, 4, none⟩ = some (.int .i64 a0_4) := (zah BK119.out 4).trans rfl; have hcz16_5 : w13.cell? ⟨gb119, 5, none⟩ = some (.int .i64 a0_5) := (zah BK119.out 5).trans rfl; have hfz16_0 := zaf BK119.out 0; have hfz16_1 := zaf BK119.out 1; have hfz16_2 := zaf BK119.out 2; have hfz16_3 := zaf BK119.out 3; have hfz16_4 := zaf BK119.out 4; have hfz16_5 := zaf BK119.out 5) | ((with_reducible refine zaW (f := 71) rfl ?_); refine zbE (some 11) rfl rfl Try.func71 (by kernel_rfl) rfl #[.slice A0_2 l0_2.length c0_2] rfl (by (try simp only [List.map_toArray, List.map_cons, List.map_nil]); first | done | rfl | (simp only [List.length_drop, List.length_take]; rfl)) ?_; (with_reducible refine (zaM.calls k _ _ l0_2 t125 _ ?side1 ?side2 A3.out).mono ?_); (case side1 => exact Kd.C_below HR0_2.out (by repeat (first | (with_reducible first | exact HB.out | apply zac | apply zab | apply zad | refine zal ?_ GE119.out | refine zal ?_ GE120.out | refine zal ?_ GE121.out) | exact HB.out))); (case side2 => exact HC0_2.out); rintro e w17 ⟨v126, rfl, ho0, hb⟩; refine ⟨_, rfl, ?_⟩; have n0_ := zaa.mk (Kd.zcz (by (with_reducible repeat (first | apply Kd.zbP | apply Kd.zb4 | apply Kd.zcm)); exact (Kd.zby (Kd.R_far (p := ⟨gb121, 1, none⟩) (Kd.zcn HO124.out BK121.out (by decide)) (fun _ hk => hk.2) (.slice Ao14 t122.length co14)) (fun _ h_ => h_.1))) hb); have n1_ := zaa.mk (Kd.R_lower ho0 (zao (by repeat (first | (with_reducible first | exact HB.out | apply zac | apply zab | apply zad | refine zal ?_ GE119.out | refine zal ?_ GE120.out | refine zal ?_ GE121.out) | exact HB.out)))); have n2_ := zaa.mk (zaq (g := gb119) (o := .cells #[.int .i64 a0_0, .slice A0_1 l0_1.length c0_1, .slice A0_2 l0_2.length c0_2, .string a0_3, .int .i64 a0_4, .int .i64 a0_5] 45 (0, 0)) (by (with_reducible repeat (first | refine zak ?_ _ | refine zam ?_ | refine zaj ?_ _)); refine zaC ?_ NB119_121.out _; (with_reducible repeat (first | refine zak ?_ _ | refine zam ?_ | refine zaj ?_ _)); exact BK119.out) hb); have n3_ := zaa.mk (zaq (g := gb120) (o := .cells #[.int .i64 0, .slice none 0 0, .slice none 0 0, .string (⟨#[]⟩ : ByteArray), .int .i64 0, .int .i64 0] 45 (0, 0)) (by (with_reducible repeat (first | refine zak ?_ _ | refine zam ?_ | refine zaj ?_ _)); refine zaC ?_ NB120_121.out _; (with_reducible repeat (first | refine zak ?_ _ | refine zam ?_ | refine zaj ?_ _)); exact BK120.out) hb); have n4_ := zaa.mk (zaq (g := gb121) (o := .cells #[.int .i64 a0_0, .slice Ao14 t122.length co14, .slice A0_2 l0_2.length c0_2, .string a0_3, .int .i64 a0_4, .int .i64 a0_5] 45 (0, 0)) (by (with_reducible repeat (first | refine zak ?_ _ | refine zam ?_ | refine zaj ?_ _)); refine zaF (cs := #[.int .i64 a0_0, .slice A0_1 l0_1.length c0_1, .slice A0_2 l0_2.length c0_2, .string a0_3, .int .i64 a0_4, .int .i64 a0_5]) ?_ 1 _ rfl; (with_reducible repeat (first | refine zak ?_ _ | refine zam ?_ | refine zaj ?_ _)); exact BK121.out) hb); have n5_ := zaa.mk (zai (by repeat (first | (with_reducible first | exact HB.out | apply zac | apply zab | apply zad | refine zal ?_ GE119.out | refine zal ?_ GE120.out | refine zal ?_ GE121.out) | exact HB.out)) hb); clear HO124; clear BK119; clear BK120; clear BK121; clear HB; have HO124 := n0_; have HO127 := n1_; have BK119 := n2_; have BK120 := n3_; have BK121 := n4_; have HB := n5_; clear n0_ n1_ n2_ n3_ n4_ n5_; (try clear hb); (try clear hb2); (try clear hk); (try clear hi); (try clear ho0); obtain ⟨Ao18, co18, eo18⟩ := Kd.zco HO127.out; subst eo18; have hcz19_0 : w17.cell? ⟨gb121, 0, none⟩ = some (.int .i64 a0_0) := (zah BK121.out 0).trans rfl; have hcz19_1 : w17.cell? ⟨gb121, 1, none⟩ = some (.slice Ao14 t122.length co14) := (zah BK121.out 1).trans rfl; have hcz19_2 : w17.cell? ⟨gb121, 2, none⟩ = some (.slice A0_2 l0_2.length c0_2) := (zah BK121.out 2).trans rfl; have hcz19_3 : w17.cell? ⟨gb121, 3, none⟩ = some (.string a0_3) := (zah BK121.out 3).trans rfl; have hcz19_4 : w17.cell? ⟨gb121, 4, none⟩ = some (.int .i64 a0_4) := (zah BK121.out 4).trans rfl; have hcz19_5 : w17.cell? ⟨gb121, 5, none⟩ = some (.int .i64 a0_5) := (zah BK121.out 5).trans rfl; have hfz19_0 := zaf BK121.out 0; have hfz19_1 := zaf BK121.out 1; have hfz19_2 := zaf BK121.out 2; have hfz19_3 := zaf BK121.out 3; have hfz19_4 := zaf BK121.out 4; have hfz19_5 := zaf BK121.out 5; have hcz20_0 : w17.cell? ⟨gb120, 0, none⟩ = some (.int .i64 0) := (zah BK120.out 0).trans rfl; have hcz20_1 : w17.cell? ⟨gb120, 1, none⟩ = some (.slice none 0 0) := (zah BK120.out 1).trans rfl; have hcz20_2 : w17.cell? ⟨gb120, 2, none⟩ = some (.slice none 0 0) := (zah BK120.out 2).trans rfl; have hcz20_3 : w17.cell? ⟨gb120, 3, none⟩ = some (.string (⟨#[]⟩ : ByteArray)) := (zah BK120.out 3).trans rfl; have hcz20_4 : w17.cell? ⟨gb120, 4, none⟩ = some (.int .i64 0) := (zah BK120.out 4).trans rfl; have hcz20_5 : w17.cell? ⟨gb120, 5, none⟩ = some (.int .i64 0) := (zah BK120.out 5).trans rfl; have hfz20_0 := zaf BK120.out 0; have hfz20_1 := zaf BK120.out 1; have hfz20_2 := zaf BK120.out 2; have hfz20_3 := zaf BK120.out 3; have hfz20_4 := zaf BK120.out 4; have hfz20_5 := zaf BK120.out 5))
 refine bodyPost_ret (results_cell_row rfl _ _ gb120 45 #[.int .i64 a0_0, .slice Ao14 t122.length co14, .slice Ao18 t125.length co18, .string a0_3, .int .i64 a0_4, .int .i64 a0_5] (0, 0) _ rfl (by (with_reducible repeat (first | refine zak ?_ _ | refine zam ?_ | refine zaj ?_ _)); refine zaF (cs := #[.int .i64 a0_0, .slice Ao14 t122.length co14, .slice Ao18 t125.length co18, .string a0_3, .int .i64 a0_4, .int .i64 0]) ?_ 5 _ rfl; (with_reducible repeat (first | refine zak ?_ _ | refine zam ?_ | refine zaj ?_ _)); refine zaF (cs := #[.int .i64 a0_0, .slice Ao14 t122.length co14, .slice Ao18 t125.length co18, .string a0_3, .int .i64 0, .int .i64 0]) ?_ 4 _ rfl; (with_reducible repeat (first | refine zak ?_ _ | refine zam ?_ | refine zaj ?_ _)); refine zaF (cs := #[.int .i64 a0_0, .slice Ao14 t122.length co14, .slice Ao18 t125.length co18, .string (⟨#[]⟩ : ByteArray), .int .i64 0, .int .i64 0]) ?_ 3 _ rfl; (with_reducible repeat (first | refine zak ?_ _ | refine zam ?_ | refine zaj ?_ _)); refine zaF (cs := #[.int .i64 a0_0, .slice Ao14 t122.length co14, .slice none 0 0, .string (⟨#[]⟩ : ByteArray), .int .i64 0, .int .i64 0]) ?_ 2 _ rfl; (with_reducible repeat (first | refine zak ?_ _ | refine zam ?_ | refine zaj ?_ _)); refine zaF (cs := #[.int .i64 a0_0, .slice none 0 0, .slice none 0 0, .string (⟨#[]⟩ : ByteArray), .int .i64 0, .int .i64 0]) ?_ 1 _ rfl; (with_reducible repeat (first | refine zak ?_ _ | refine zam ?_ | refine zaj ?_ _)); refine zaF (cs := #[.int .i64 0, .slice none 0 0, .slice none 0 0, .string (⟨#[]⟩ : ByteArray), .int .i64 0, .int .i64 0]) ?_ 0 _ rfl; (with_reducible repeat (first | refine zak ?_ _ | refine zam ?_ | refine zaj ?_ _)); refine zaC ?_ NB120_121.out _; (with_reducible repeat (first | refine zak ?_ _ | refine zam ?_ | refine zaj ?_ _)); exact BK120.out) Try.underlying45 rfl (by kernel_rfl)) rfl ?_
 exact ⟨_, _, by first | rfl | (simp [zas, zar] <;> rfl) | (simp [*, zas, zar] <;> rfl), by (with_reducible repeat (first | apply Kd.zbP | apply Kd.zb4 | apply Kd.zcm)); exact Kd.zby (Kd.R_far (p := ⟨gb120, 5, none⟩) (Kd.R_far (p := ⟨gb120, 4, none⟩) (Kd.R_far (p := ⟨gb120, 3, none⟩) (Kd.R_far (p := ⟨gb120, 2, none⟩) (Kd.R_far (p := ⟨gb120, 1, none⟩) (Kd.R_far (p := ⟨gb120, 0, none⟩) (Kd.R_far (p := ⟨gb121, 2, none⟩) (Kd.zcn (Kd.zcn HO124.out BK121.out (by decide)) BK120.out (by decide)) (fun _ hk => hk.1.2) (.slice Ao18 t125.length co18)) (fun _ hk => hk.2) (.int .i64 a0_0)) (fun _ hk => hk.2) (.slice Ao14 t122.length co14)) (fun _ hk => hk.2) (.slice Ao18 t125.length co18)) (fun _ hk => hk.2) (.string a0_3)) (fun _ hk => hk.2) (.int .i64 a0_4)) (fun _ hk => hk.2) (.int .i64 a0_5)) (fun _ hk => trivial), by (with_reducible repeat (first | apply Kd.zbP | apply Kd.zb4 | apply Kd.zcm)); exact Kd.zby (Kd.R_far (p := ⟨gb120, 5, none⟩) (Kd.R_far (p := ⟨gb120, 4, none⟩) (Kd.R_far (p := ⟨gb120, 3, none⟩) (Kd.R_far (p := ⟨gb120, 2, none⟩) (Kd.R_far (p := ⟨gb120, 1, none⟩) (Kd.R_far (p := ⟨gb120, 0, none⟩) (Kd.R_far (p := ⟨gb121, 2, none⟩) (Kd.zcn (Kd.zcn HO127.out BK121.out (by decide)) BK120.out (by decide)) (fun _ hk => hk.1.2) (.slice Ao18 t125.length co18)) (fun _ hk => hk.2) (.int .i64 a0_0)) (fun _ hk => hk.2) (.slice Ao14 t122.length co14)) (fun _ hk => hk.2) (.slice Ao18 t125.length co18)) (fun _ hk => hk.2) (.string a0_3)) (fun _ hk => hk.2) (.int .i64 a0_4)) (fun _ hk => hk.2) (.int .i64 a0_5)) (fun _ hk => trivial), by repeat (first | (with_reducible first | exact HB.out | apply zac | apply zab | apply zad | refine zal ?_ GE119.out | refine zal ?_ GE120.out | refine zal ?_ GE121.out) | exact HB.out)⟩
end Go.Proofs.Ytjghephnjkffcaa.PCk
