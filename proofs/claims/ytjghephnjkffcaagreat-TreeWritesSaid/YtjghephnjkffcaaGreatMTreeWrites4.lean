/- Parts of one proof, merged by a program of this repo: walks over the given program and plain facts. -/
import Derived.Test.YtjghephnjkffcaaGreatProg
import Derived.Below
import Derived.Deep.Draws
import Derived.Deep.AppendLies
import Derived.Maps.AppendAt
import Derived.OwnWalk
import Derived.Laws.BytesArg
import Derived.Laws.MakeOwn
import Derived.Laws.OwnMore
import Derived.Deep.OwnRows
import Derived.Tactics
import Derived.Lib.ConvBytes
import Derived.Laws.Slices
import Derived.WalkKit
import Derived.KernelRfl
import Derived.RowKit3
import Derived.Deep.LoopGhost
import Derived.Deep.QuietTactic
import Derived.BigQuiet
import Derived.WideLaws
import Derived.Deep.DeepCutAuto
import Derived.Deep.CutBlock
import Derived.Deep.RegionHeld3
import Derived.Laws.Rows
import Derived.Lib.AppendStr
import Derived.ArgAppend
import Derived.Laws.IdiomCopy
import Derived.OrdersHeld
import Derived.Laws.BitsLemmas
import Derived.RowKit
import Derived.WalkSpells
import Derived.WalkLawsBesides
import Derived.Test.YtjghephnjkffcaaGreatMTreeWrites3
import Derived.Test.YtjghephnjkffcaaGreatMTreeWrites2
import Derived.Test.YtjghephnjkffcaaGreatMTreeWrites1
import Derived.SizedLaws
import Derived.ChangeSlices
import Derived.ChangeArms
import Derived.Deep.Slices
import Derived.DataReads
namespace Go.Proofs.YtjghephnjkffcaaGreat.PAll
open Go.RowKit Go.Proofs.YtjghephnjkffcaaGreatW.PrintWords Go.Proofs.YtjghephnjkffcaaGreatW.PrintLast Go.Proofs.YtjghephnjkffcaaGreatW.PrintMore
attribute [local go_sem] zb2 zb0 zcn zcm zbF zbE zb1 zbZ
set_option linter.unusedVariables false
set_option linter.unusedSimpArgs false
def errW : Option Int → Value
 | none => .nilIface
 | some c => .iface 0 (.int .i64 c)
theorem zaw : errW none = .nilIface := rfl
theorem zav (c : Int) : errW (some c) = .iface 0 (.int .i64 c) := rfl
theorem info3 : (Tryz.prog.info? 3).map (fun i => (i.zero, i.size, i.bytes)) = some (some (.int .i64 0), 1, 8) := by kernel_rfl
theorem info5 : (Tryz.prog.info? 5).map (fun i => (i.zero, i.size, i.bytes)) = some (some (.int .u8 0), 1, 1) := by kernel_rfl
theorem info40 : (Tryz.prog.info? 40).map (fun i => (i.zero, i.size, i.bytes)) = some (some (.agg #[(.int .i64 0), (.slice none 0 0), (.slice none 0 0), (.string ⟨#[]⟩), (.int .i64 0), (.int .i64 0)]), 6, 88) := by kernel_rfl
theorem info50 : (Tryz.prog.info? 50).map (fun i => (i.zero, i.size, i.bytes)) = some (some (.agg #[(.string ⟨#[]⟩), (.int .i64 0)]), 2, 24) := by kernel_rfl
structure S50 where
 f0 : ByteArray
 f1 : Int
def z50 : S50 := ⟨(⟨#[]⟩ : ByteArray), (0 : Int)⟩
def k50 : Kd S50 := Kd.iso (Kd.pair Kd.string (Kd.int .i64)) (fun x : S50 => (x.f0, x.f1))
theorem k50_open {w : World} {x : S50} {cs : List Value} (h : k50.K w x cs) : cs = [.string x.f0, .int .i64 x.f1] := by
 obtain ⟨_, _, rfl, rfl, rfl⟩ := h
 exact rfl
theorem k50_openM {w : World} {base : Nat} {ok : Nat → Prop} {x : S50} {cs : List Value} (h : k50.M w base ok x cs) : cs = [.string x.f0, .int .i64 x.f1] := by
 obtain ⟨_, _, rfl, rfl, rfl⟩ := h
 exact rfl
theorem k50_mkM (w : World) (base : Nat) (ok : Nat → Prop) (x : S50)  : k50.M w base ok x [.string x.f0, .int .i64 x.f1] := ⟨[.string x.f0], [.int .i64 x.f1], rfl, rfl, rfl⟩
def zau (xs : List S50) (i : Int) : S50 := xs.getD i.toNat z50
theorem zb4 {w : World} {A : Option Addr} {n : Nat} {xs : List S50} (h : Kd.C k50 w A n xs) (i : Int) (h0 : 0 ≤ i) (h1 : i < n) : ∃ ad , A = some ad ∧ w.cell? (ad.add (i.toNat * 2)) = some (.string (zau xs i).f0) ∧ w.cell? ⟨(ad.add (i.toNat * 2)).block, (ad.add (i.toNat * 2)).off + 1, none⟩ = some (.int .i64 (zau xs i).f1) := by
 obtain ⟨ad, c, e, _, hK, hc0⟩ := Kd.C_get h z50 i h0 h1
 have hc : ∀ j u, c[j]? = some u → w.cell? (ad.add (i.toNat * 2 + j)) = some u := hc0
 obtain rfl := k50_open hK
 exact ⟨ad, e, hc 0 _ rfl, by rw [← zbu _ _ 1 (by omega)]; exact hc 1 _ rfl⟩
structure S40 where
 f0 : Int
 f1 : (List Int)
 f2 : (List S50)
 f3 : ByteArray
 f4 : Int
 f5 : Int
def z40 : S40 := ⟨(0 : Int), ([] : List Int), ([] : List S50), (⟨#[]⟩ : ByteArray), (0 : Int), (0 : Int)⟩
def k40 : Kd S40 := Kd.iso (Kd.pair (Kd.int .i64) (Kd.pair (Kd.slice 5 (Kd.int .u8)) (Kd.pair (Kd.slice 50 k50) (Kd.pair Kd.string (Kd.pair (Kd.int .i64) (Kd.int .i64)))))) (fun x : S40 => (x.f0, x.f1, x.f2, x.f3, x.f4, x.f5))
theorem k40_open {w : World} {x : S40} {cs : List Value} (h : k40.K w x cs) : ∃ A1 c1 A2 c2, cs = [.int .i64 x.f0, .slice A1 x.f1.length c1, .slice A2 x.f2.length c2, .string x.f3, .int .i64 x.f4, .int .i64 x.f5] ∧ x.f1.length ≤ c1 ∧ (Kd.int .u8).C w A1 x.f1.length x.f1 ∧ x.f2.length ≤ c2 ∧ k50.C w A2 x.f2.length x.f2 := by
 obtain ⟨_, _, rfl, rfl, ⟨_, _, rfl, ⟨A1, c1, rfl, l1, g1⟩, ⟨_, _, rfl, ⟨A2, c2, rfl, l2, g2⟩, ⟨_, _, rfl, rfl, ⟨_, _, rfl, rfl, rfl⟩⟩⟩⟩⟩ := h
 exact ⟨A1, c1, A2, c2, rfl, l1, g1, l2, g2⟩
theorem zck {w : World} {base : Nat} {ok : Nat → Prop} {x : S40} {cs : List Value} (h : k40.M w base ok x cs) : ∃ v1 v2, cs = [.int .i64 x.f0, v1, v2, .string x.f3, .int .i64 x.f4, .int .i64 x.f5] ∧ (Kd.int .u8).R 5 w base ok v1 x.f1 ∧ k50.R 50 w base ok v2 x.f2 := by
 obtain ⟨_, _, rfl, rfl, ⟨_, _, rfl, ⟨v1, rfl, g1⟩, ⟨_, _, rfl, ⟨v2, rfl, g2⟩, ⟨_, _, rfl, rfl, ⟨_, _, rfl, rfl, rfl⟩⟩⟩⟩⟩ := h
 exact ⟨v1, v2, rfl, g1, g2⟩
theorem zcg (w : World) (base : Nat) (ok : Nat → Prop) (x : S40) {v1 : Value} (g1 : (Kd.int .u8).R 5 w base ok v1 x.f1) {v2 : Value} (g2 : k50.R 50 w base ok v2 x.f2) : k40.M w base ok x [.int .i64 x.f0, v1, v2, .string x.f3, .int .i64 x.f4, .int .i64 x.f5] := ⟨[.int .i64 x.f0], [v1, v2, .string x.f3, .int .i64 x.f4, .int .i64 x.f5], rfl, rfl, ⟨[v1], [v2, .string x.f3, .int .i64 x.f4, .int .i64 x.f5], rfl, ⟨v1, rfl, g1⟩, ⟨[v2], [.string x.f3, .int .i64 x.f4, .int .i64 x.f5], rfl, ⟨v2, rfl, g2⟩, ⟨[.string x.f3], [.int .i64 x.f4, .int .i64 x.f5], rfl, rfl, ⟨[.int .i64 x.f4], [.int .i64 x.f5], rfl, rfl, rfl⟩⟩⟩⟩⟩
def zah (xs : List S40) (i : Int) : S40 := xs.getD i.toNat z40
theorem zbc {w : World} {A : Option Addr} {n : Nat} {xs : List S40} (h : Kd.C k40 w A n xs) (i : Int) (h0 : 0 ≤ i) (h1 : i < n) : ∃ ad A1 c1 A2 c2, A = some ad ∧ w.cell? (ad.add (i.toNat * 6)) = some (.int .i64 (zah xs i).f0) ∧ w.cell? ⟨(ad.add (i.toNat * 6)).block, (ad.add (i.toNat * 6)).off + 1, none⟩ = some (.slice A1 (zah xs i).f1.length c1) ∧ w.cell? ⟨(ad.add (i.toNat * 6)).block, (ad.add (i.toNat * 6)).off + 2, none⟩ = some (.slice A2 (zah xs i).f2.length c2) ∧ w.cell? ⟨(ad.add (i.toNat * 6)).block, (ad.add (i.toNat * 6)).off + 3, none⟩ = some (.string (zah xs i).f3) ∧ w.cell? ⟨(ad.add (i.toNat * 6)).block, (ad.add (i.toNat * 6)).off + 4, none⟩ = some (.int .i64 (zah xs i).f4) ∧ w.cell? ⟨(ad.add (i.toNat * 6)).block, (ad.add (i.toNat * 6)).off + 5, none⟩ = some (.int .i64 (zah xs i).f5) ∧ (zah xs i).f1.length ≤ c1 ∧ (Kd.int .u8).C w A1 (zah xs i).f1.length (zah xs i).f1 ∧ (zah xs i).f2.length ≤ c2 ∧ k50.C w A2 (zah xs i).f2.length (zah xs i).f2 := by
 obtain ⟨ad, c, e, _, hK, hc0⟩ := Kd.C_get h z40 i h0 h1
 have hc : ∀ j u, c[j]? = some u → w.cell? (ad.add (i.toNat * 6 + j)) = some u := hc0
 obtain ⟨A1, c1, A2, c2, rfl, l1, g1, l2, g2⟩ := k40_open hK
 exact ⟨ad, A1, c1, A2, c2, e, hc 0 _ rfl, by rw [← zbu _ _ 1 (by omega)]; exact hc 1 _ rfl, by rw [← zbu _ _ 2 (by omega)]; exact hc 2 _ rfl, by rw [← zbu _ _ 3 (by omega)]; exact hc 3 _ rfl, by rw [← zbu _ _ 4 (by omega)]; exact hc 4 _ rfl, by rw [← zbu _ _ 5 (by omega)]; exact hc 5 _ rfl, l1, g1, l2, g2⟩
structure S44 where
 f0 : Int
 f1 : Int
 f2 : Int
 f3 : Int
 f4 : ByteArray
 f5 : ByteArray
 f6 : Int
 f7 : Bool
 f8 : Int
 f9 : Int
 f10 : (List Int)
 f11 : Int
def z44 : S44 := ⟨(0 : Int), (0 : Int), (0 : Int), (0 : Int), (⟨#[]⟩ : ByteArray), (⟨#[]⟩ : ByteArray), (0 : Int), false, (0 : Int), (0 : Int), ([] : List Int), (0 : Int)⟩
def k44 : Kd S44 := Kd.iso (Kd.pair (Kd.int .i64) (Kd.pair (Kd.int .i64) (Kd.pair (Kd.int .i64) (Kd.pair (Kd.int .i64) (Kd.pair Kd.string (Kd.pair Kd.string (Kd.pair (Kd.int .i64) (Kd.pair Kd.bool (Kd.pair (Kd.int .i64) (Kd.pair (Kd.int .i64) (Kd.pair (Kd.slice 5 (Kd.int .u8)) (Kd.int .i64)))))))))))) (fun x : S44 => (x.f0, x.f1, x.f2, x.f3, x.f4, x.f5, x.f6, x.f7, x.f8, x.f9, x.f10, x.f11))
theorem k44_open {w : World} {x : S44} {cs : List Value} (h : k44.K w x cs) : ∃ A10 c10, cs = [.int .i64 x.f0, .int .i64 x.f1, .int .i64 x.f2, .int .i64 x.f3, .string x.f4, .string x.f5, .int .i64 x.f6, .bool x.f7, .int .i64 x.f8, .int .i64 x.f9, .slice A10 x.f10.length c10, .int .i64 x.f11] ∧ x.f10.length ≤ c10 ∧ (Kd.int .u8).C w A10 x.f10.length x.f10 := by
 obtain ⟨_, _, rfl, rfl, ⟨_, _, rfl, rfl, ⟨_, _, rfl, rfl, ⟨_, _, rfl, rfl, ⟨_, _, rfl, rfl, ⟨_, _, rfl, rfl, ⟨_, _, rfl, rfl, ⟨_, _, rfl, rfl, ⟨_, _, rfl, rfl, ⟨_, _, rfl, rfl, ⟨_, _, rfl, ⟨A10, c10, rfl, l10, g10⟩, rfl⟩⟩⟩⟩⟩⟩⟩⟩⟩⟩⟩ := h
 exact ⟨A10, c10, rfl, l10, g10⟩
def zaU (xs : List S44) (i : Int) : S44 := xs.getD i.toNat z44
theorem at_T44 {w : World} {A : Option Addr} {n : Nat} {xs : List S44} (h : Kd.C k44 w A n xs) (i : Int) (h0 : 0 ≤ i) (h1 : i < n) : ∃ ad A10 c10, A = some ad ∧ w.cell? (ad.add (i.toNat * 12)) = some (.int .i64 (zaU xs i).f0) ∧ w.cell? ⟨(ad.add (i.toNat * 12)).block, (ad.add (i.toNat * 12)).off + 1, none⟩ = some (.int .i64 (zaU xs i).f1) ∧ w.cell? ⟨(ad.add (i.toNat * 12)).block, (ad.add (i.toNat * 12)).off + 2, none⟩ = some (.int .i64 (zaU xs i).f2) ∧ w.cell? ⟨(ad.add (i.toNat * 12)).block, (ad.add (i.toNat * 12)).off + 3, none⟩ = some (.int .i64 (zaU xs i).f3) ∧ w.cell? ⟨(ad.add (i.toNat * 12)).block, (ad.add (i.toNat * 12)).off + 4, none⟩ = some (.string (zaU xs i).f4) ∧ w.cell? ⟨(ad.add (i.toNat * 12)).block, (ad.add (i.toNat * 12)).off + 5, none⟩ = some (.string (zaU xs i).f5) ∧ w.cell? ⟨(ad.add (i.toNat * 12)).block, (ad.add (i.toNat * 12)).off + 6, none⟩ = some (.int .i64 (zaU xs i).f6) ∧ w.cell? ⟨(ad.add (i.toNat * 12)).block, (ad.add (i.toNat * 12)).off + 7, none⟩ = some (.bool (zaU xs i).f7) ∧ w.cell? ⟨(ad.add (i.toNat * 12)).block, (ad.add (i.toNat * 12)).off + 8, none⟩ = some (.int .i64 (zaU xs i).f8) ∧ w.cell? ⟨(ad.add (i.toNat * 12)).block, (ad.add (i.toNat * 12)).off + 9, none⟩ = some (.int .i64 (zaU xs i).f9) ∧ w.cell? ⟨(ad.add (i.toNat * 12)).block, (ad.add (i.toNat * 12)).off + 10, none⟩ = some (.slice A10 (zaU xs i).f10.length c10) ∧ w.cell? ⟨(ad.add (i.toNat * 12)).block, (ad.add (i.toNat * 12)).off + 11, none⟩ = some (.int .i64 (zaU xs i).f11) ∧ (zaU xs i).f10.length ≤ c10 ∧ (Kd.int .u8).C w A10 (zaU xs i).f10.length (zaU xs i).f10 := by
 obtain ⟨ad, c, e, _, hK, hc0⟩ := Kd.C_get h z44 i h0 h1
 have hc : ∀ j u, c[j]? = some u → w.cell? (ad.add (i.toNat * 12 + j)) = some u := hc0
 obtain ⟨A10, c10, rfl, l10, g10⟩ := k44_open hK
 exact ⟨ad, A10, c10, e, hc 0 _ rfl, by rw [← zbu _ _ 1 (by omega)]; exact hc 1 _ rfl, by rw [← zbu _ _ 2 (by omega)]; exact hc 2 _ rfl, by rw [← zbu _ _ 3 (by omega)]; exact hc 3 _ rfl, by rw [← zbu _ _ 4 (by omega)]; exact hc 4 _ rfl, by rw [← zbu _ _ 5 (by omega)]; exact hc 5 _ rfl, by rw [← zbu _ _ 6 (by omega)]; exact hc 6 _ rfl, by rw [← zbu _ _ 7 (by omega)]; exact hc 7 _ rfl, by rw [← zbu _ _ 8 (by omega)]; exact hc 8 _ rfl, by rw [← zbu _ _ 9 (by omega)]; exact hc 9 _ rfl, by rw [← zbu _ _ 10 (by omega)]; exact hc 10 _ rfl, by rw [← zbu _ _ 11 (by omega)]; exact hc 11 _ rfl, l10, g10⟩
end Go.Proofs.YtjghephnjkffcaaGreat.PAll
namespace Go.Proofs.YtjghephnjkffcaaGreatW.Opens
open Go.ChangeShapes Go.WideShapes Go.RowKit Go.Proofs.YtjghephnjkffcaaGreatW.PrintWords
section
variable {H : Type} (enc : TypeId × Value → H) (P : Program) (w : World)
def Opens (t : TypeId) {α : Type} (d : Kd α) (S : α → Prop) : Prop :=
 ∀ (base : Nat) (spare : Nat → Bool) (held : Bool) (fuel : Nat) (cs : List Value) (x : DataW H × List MemPlace),
  DataW.trod enc P w base spare held fuel t cs = some x → (∀ n ∈ x.1.weights P t, n ≤ reachBytes) → ∃ a : α, d.K w a cs ∧ S a
def OpensF (fs : List Field) (o : Nat) {α : Type} (d : Kd α) (S : α → Prop) : Prop :=
 ∀ (base : Nat) (spare : Nat → Bool) (held : Bool) (fuel : Nat) (cs : List Value) (xs : List (DataW H × List MemPlace)),
  xs.length = fs.length → (∀ (i : Nat) (f : Field), fs[i]? = some f → DataW.trod enc P w base spare held fuel f.type ((cs.drop f.offset).take (P.cellsOf f.type)) = xs[i]?) →
  (∀ n ∈ DataW.weightsEach P (fs.map (·.type)) (xs.map (·.1)), n ≤ reachBytes) → ∃ a : α, d.K w a ((cs.drop o).take d.sz) ∧ S a
end
section
variable {H : Type} {enc : TypeId × Value → H} {P : Program} {w : World} {t e : TypeId} {α β : Type} {d : Kd α} {S : α → Prop}
theorem zbV {k : IntKind} (ht : P.underlying t = some (.int k)) : Opens enc P w t (Kd.int k) (fun n => (Lit.int k n).wf = true) := by
 intro base spare held fuel cs x h _
 obtain ⟨n, rfl, _, hw⟩ := DataW.trod_int ht h
 exact ⟨n, rfl, hw⟩
theorem opens_bool (ht : P.underlying t = some .bool) : Opens enc P w t Kd.bool (fun _ => True) := by
 intro base spare held fuel cs x h _
 obtain ⟨b, rfl, _⟩ := DataW.trod_bool ht h
 exact ⟨b, rfl, trivial⟩
theorem opens_string (ht : P.underlying t = some .string) : Opens enc P w t Kd.string (fun s => s.size ≤ 140737488351232) := by
 intro base spare held fuel cs x h hz
 obtain ⟨s, rfl, rfl, hs⟩ := DataW.trod_string ht h
 refine ⟨s, rfl, ?_⟩
 have h1 := hz s.data.toList.length (by simp [DataW.weights])
 have h2 : s.data.toList.length = s.size := by rw [Array.length_toList]; rfl
 rw [h2] at h1
 exact h1
theorem weights_all {ds : List (DataW H)} {y : DataW H} (hy : y ∈ ds) {n : Nat} (hn : n ∈ y.weights P e) : n ∈ DataW.weightsAll P e ds := by
 induction ds with
 | nil => cases hy
 | cons a r ih =>
  simp only [DataW.weightsAll, List.mem_append]
  rcases List.mem_cons.1 hy with rfl | h
  ·exact .inl hn
  ·exact .inr (ih h)
theorem opens_slice {B : Nat} (ht : P.underlying t = some (.slice e)) (hs : P.cellsOf e = d.sz) (hB : P.bytesOf e = B) (hd : Opens enc P w e d S) :
  Opens enc P w t (Kd.slice e d) (fun l => l.length ≤ maxLen ∧ l.length * B ≤ 140737488351232 ∧ ∀ x ∈ l, S x) := by
 intro base spare held fuel cs x h hz
 rcases Deep.open_slice ht h with ⟨rfl, rfl⟩ | ⟨a, len, cap, m, n, D, Pl, rfl, hb, hl, hm, hmm, rfl, hx⟩
 ·refine ⟨[], ⟨none, 0, rfl, Nat.le_refl _, rfl, by simp, fun h => absurd h (Nat.lt_irrefl _)⟩, by simp, by simp, by simp⟩
 ·have hlm : len ≤ m := by
   rw [hmm]
   split <;> omega
  have hw : ∀ i, i < len → ∀ n ∈ (D i).weights P e, n ≤ reachBytes := by
   intro i hi n hn
   refine hz n ?_
   simp only [DataW.weights, ht, List.mem_cons, List.mem_append]
   exact .inr (.inl (weights_all (List.mem_map.2 ⟨i, List.mem_range.2 hi, rfl⟩) hn))
  have hel : ∀ i, i < len → ∃ y : α, (∃ cs', w.cells? base (a.add (i * P.cellsOf e)) (P.cellsOf e) = some cs' ∧ d.K w y cs') ∧ S y := by
   intro i hi
   obtain ⟨cs', h1, h2⟩ := hx i (by omega)
   obtain ⟨y, hk, hS⟩ := hd base spare held n cs' _ h2 (hw i hi)
   exact ⟨y, ⟨cs', h1, hk⟩, hS⟩
  have hln : len ≤ 9223372036854775807 := by unfold maxLen at hm; omega
  by_cases h0 : len = 0
  ·subst h0
   refine ⟨[], ⟨some a, cap, rfl, by simp, rfl, by simp, fun h => absurd h (Nat.lt_irrefl _)⟩, by simp, by simp, by simp⟩
  ·obtain ⟨y0, _⟩ := hel 0 (by omega)
   haveI : Inhabited α := ⟨y0⟩
   obtain ⟨f, hf⟩ := Deep.choose_lt hel
   have hlen : ((List.range len).map f).length = len := by simp
   refine ⟨(List.range len).map f, ⟨some a, cap, by rw [hlen], by rw [hlen]; exact hl, hlen.trans hlen.symm |>.trans hlen |> fun _ => rfl, by rw [hlen]; exact hln, fun _ => ⟨a, rfl, ?_⟩⟩, by rw [hlen]; omega, ?_, ?_⟩
   ·intro j p hj
    rw [List.getElem?_map] at hj
    obtain ⟨i, hi, rfl⟩ := Option.map_eq_some_iff.1 hj
    have hjl : j < len := by
     have := (List.getElem?_eq_some_iff.1 hi).1
     simpa using this
    have hij : i = j := by
     rw [List.getElem?_range hjl] at hi
     exact (Option.some.inj hi).symm
    subst hij
    obtain ⟨⟨cs', h1, hk⟩, _⟩ := hf i hjl
    refine ⟨cs', d.K_len hk, hk, ?_⟩
    intro k u hu
    obtain ⟨_, hl', hc'⟩ := World.cells?_some h1
    have hk' : k < cs'.length := (List.getElem?_eq_some_iff.1 hu).1
    have hk2 : k < P.cellsOf e := by rw [← hl']; exact hk'
    have := hc' k hk2
    rw [Deep.add_add, hs] at this
    rw [this, hu]
   ·rw [hlen]
    have h1 := hz ((((List.range len).map D).length + ((List.range (m - len)).map fun j => D (len + j)).length) * P.bytesOf e) (by simp only [DataW.weights, ht]; exact List.mem_cons_self)
    rw [hB] at h1
    have h2 : len ≤ ((List.range len).map D).length + ((List.range (m - len)).map fun j => D (len + j)).length := by simp
    exact Nat.le_trans (Nat.mul_le_mul_right _ h2) h1
   ·intro x hx
    obtain ⟨i, hi, rfl⟩ := List.mem_map.1 hx
    exact (hf i (List.mem_range.1 hi)).2
theorem opensF_one {f : Field} {o : Nat} (ho : f.offset = o) (hc : P.cellsOf f.type = d.sz) (h : Opens enc P w f.type d S) : OpensF enc P w [f] o d S := by
 intro base spare held fuel cs xs hl hx hz
 match xs, hl with
 | [y], _ =>
  have hy := hx 0 f rfl
  rw [ho, hc] at hy
  exact h base spare held fuel _ y hy (fun n hn => hz n (by simp [DataW.weightsEach, hn]))
theorem zbf {f : Field} {fs : List Field} {o : Nat} {d2 : Kd β} {S2 : β → Prop} (ho : f.offset = o) (hc : P.cellsOf f.type = d.sz) (h : Opens enc P w f.type d S) (h2 : OpensF enc P w fs (o + d.sz) d2 S2) :
  OpensF enc P w (f :: fs) o (Kd.pair d d2) (fun x => S x.1 ∧ S2 x.2) := by
 intro base spare held fuel cs xs hl hx hz
 match xs, hl with
 | y :: ys, hl =>
  have hy := hx 0 f rfl
  rw [ho, hc] at hy
  obtain ⟨a, ha, hS⟩ := h base spare held fuel _ y hy (fun n hn => hz n (by simp only [List.map_cons, DataW.weightsEach, List.mem_append]; exact .inl hn))
  obtain ⟨b, hb, hS2⟩ := h2 base spare held fuel cs ys (by simpa using hl) (fun i g hg => by have := hx (i + 1) g (by simpa using hg); simpa using this) (fun n hn => hz n (by simp only [List.map_cons, DataW.weightsEach, List.mem_append]; exact .inr hn))
  refine ⟨(a, b), ⟨_, _, ?_, ha, hb⟩, hS, hS2⟩
  show (cs.drop o).take (d.sz + d2.sz) = _
  rw [List.take_add, List.drop_drop]
theorem opens_struct {fs : Array Field} (ht : P.underlying t = some (.struct fs)) (hs : P.cellsOf t = d.sz) (h : OpensF enc P w fs.toList 0 d S) : Opens enc P w t d S := by
 intro base spare held fuel cs x hx hz
 obtain ⟨xs, n, _, rfl, hl, hn, hm⟩ := DataW.trod_struct ht hx
 obtain ⟨a, ha, hS⟩ := h base spare held n cs xs (by simpa using hn) (fun i f hf => hm i f (by simpa using hf)) (fun n hn => hz n (by simp only [DataW.weights, ht]; exact hn))
 rw [List.drop_zero, ← hs, ← hl, List.take_length] at ha
 exact ⟨a, ha, hS⟩
theorem opens_iso {f : β → α} (h : Opens enc P w t d S) (g : α → β) (hg : ∀ y, f (g y) = y) : Opens enc P w t (Kd.iso d f) (fun b => S (f b)) := by
 intro base spare held fuel cs x hx hz
 obtain ⟨a, ha, hS⟩ := h base spare held fuel cs x hx hz
 exact ⟨g a, by show d.K w (f (g a)) cs; rw [hg]; exact ha, by show S (f (g a)); rw [hg]; exact hS⟩
end
end Go.Proofs.YtjghephnjkffcaaGreatW.Opens
namespace Go.Proofs.YtjghephnjkffcaaGreat.PAll
open Go.RowKit Go.Proofs.YtjghephnjkffcaaGreatW.PrintWords Go.Proofs.YtjghephnjkffcaaGreatW.PrintLast Go.Proofs.YtjghephnjkffcaaGreatW.Opens
def ok37 (l : List (Int)) : Prop := l.length ≤ maxLen ∧ l.length * 1 ≤ 140737488351232 ∧ ∀ x ∈ l, (Lit.int .u8 x).wf = true
set_option maxRecDepth 20000 in
theorem opens37 {H : Type} {enc : TypeId × Value → H} {w : World} : Opens enc Tryz.prog w 37 (Kd.slice 5 (Kd.int .u8)) ok37 :=
 opens_slice Tryz.underlying37 (by kernel_rfl) (by kernel_rfl) (zbV Tryz.underlying5)
def ok50 (x : S50) : Prop := x.f0.size ≤ 140737488351232 ∧ (Lit.int .i64 x.f1).wf = true
set_option maxRecDepth 20000 in
theorem opens50 {H : Type} {enc : TypeId × Value → H} {w : World} : Opens enc Tryz.prog w 50 k50 ok50 :=
 opens_iso (opens_struct Tryz.underlying50 (by kernel_rfl) (zbf rfl (by kernel_rfl) (opens_string Tryz.underlying9) (opensF_one rfl (by kernel_rfl) (zbV Tryz.underlying3)))) (fun y => ⟨y.1, y.2⟩) (fun _ => rfl)
def ok38 (l : List (S50)) : Prop := l.length ≤ maxLen ∧ l.length * 24 ≤ 140737488351232 ∧ ∀ x ∈ l, ok50 x
set_option maxRecDepth 20000 in
theorem opens38 {H : Type} {enc : TypeId × Value → H} {w : World} : Opens enc Tryz.prog w 38 (Kd.slice 50 k50) ok38 :=
 opens_slice Tryz.underlying38 (by kernel_rfl) (by kernel_rfl) opens50
def ok40 (x : S40) : Prop := (Lit.int .i64 x.f0).wf = true ∧ ok37 x.f1 ∧ ok38 x.f2 ∧ x.f3.size ≤ 140737488351232 ∧ (Lit.int .i64 x.f4).wf = true ∧ (Lit.int .i64 x.f5).wf = true
set_option maxRecDepth 20000 in
theorem opens40 {H : Type} {enc : TypeId × Value → H} {w : World} : Opens enc Tryz.prog w 40 k40 ok40 :=
 opens_iso (opens_struct Tryz.underlying40 (by kernel_rfl) (zbf rfl (by kernel_rfl) (zbV Tryz.underlying3) (zbf rfl (by kernel_rfl) opens37 (zbf rfl (by kernel_rfl) opens38 (zbf rfl (by kernel_rfl) (opens_string Tryz.underlying9) (zbf rfl (by kernel_rfl) (zbV Tryz.underlying3) (opensF_one rfl (by kernel_rfl) (zbV Tryz.underlying2)))))))) (fun y => ⟨y.1, y.2.1, y.2.2.1, y.2.2.2.1, y.2.2.2.2.1, y.2.2.2.2.2⟩) (fun _ => rfl)
def ok22 (l : List (S40)) : Prop := l.length ≤ maxLen ∧ l.length * 88 ≤ 140737488351232 ∧ ∀ x ∈ l, ok40 x
set_option maxRecDepth 20000 in
theorem opens22 {H : Type} {enc : TypeId × Value → H} {w : World} : Opens enc Tryz.prog w 22 (Kd.slice 40 k40) ok22 :=
 opens_slice Tryz.underlying22 (by kernel_rfl) (by kernel_rfl) opens40
def ok24 (x : List (S40)) : Prop := ok22 (x)
set_option maxRecDepth 20000 in
theorem opens24 {H : Type} {enc : TypeId × Value → H} {w : World} : Opens enc Tryz.prog w 24 (Kd.slice 40 k40) ok24 :=
 opens_struct Tryz.underlying24 (by kernel_rfl) (opensF_one rfl (by kernel_rfl) opens22)
def ok44 (x : S44) : Prop := (Lit.int .i64 x.f0).wf = true ∧ (Lit.int .i64 x.f1).wf = true ∧ (Lit.int .i64 x.f2).wf = true ∧ (Lit.int .i64 x.f3).wf = true ∧ x.f4.size ≤ 140737488351232 ∧ x.f5.size ≤ 140737488351232 ∧ (Lit.int .i64 x.f6).wf = true ∧ True ∧ (Lit.int .i64 x.f8).wf = true ∧ (Lit.int .i64 x.f9).wf = true ∧ ok37 x.f10 ∧ (Lit.int .i64 x.f11).wf = true
set_option maxRecDepth 20000 in
theorem opens44 {H : Type} {enc : TypeId × Value → H} {w : World} : Opens enc Tryz.prog w 44 k44 ok44 :=
 opens_iso (opens_struct Tryz.underlying44 (by kernel_rfl) (zbf rfl (by kernel_rfl) (zbV Tryz.underlying3) (zbf rfl (by kernel_rfl) (zbV Tryz.underlying3) (zbf rfl (by kernel_rfl) (zbV Tryz.underlying3) (zbf rfl (by kernel_rfl) (zbV Tryz.underlying3) (zbf rfl (by kernel_rfl) (opens_string Tryz.underlying9) (zbf rfl (by kernel_rfl) (opens_string Tryz.underlying9) (zbf rfl (by kernel_rfl) (zbV Tryz.underlying3) (zbf rfl (by kernel_rfl) (opens_bool Tryz.underlying4) (zbf rfl (by kernel_rfl) (zbV Tryz.underlying3) (zbf rfl (by kernel_rfl) (zbV Tryz.underlying3) (zbf rfl (by kernel_rfl) opens37 (opensF_one rfl (by kernel_rfl) (zbV Tryz.underlying2)))))))))))))) (fun y => ⟨y.1, y.2.1, y.2.2.1, y.2.2.2.1, y.2.2.2.2.1, y.2.2.2.2.2.1, y.2.2.2.2.2.2.1, y.2.2.2.2.2.2.2.1, y.2.2.2.2.2.2.2.2.1, y.2.2.2.2.2.2.2.2.2.1, y.2.2.2.2.2.2.2.2.2.2.1, y.2.2.2.2.2.2.2.2.2.2.2⟩) (fun _ => rfl)
def ok25 (l : List (S44)) : Prop := l.length ≤ maxLen ∧ l.length * 128 ≤ 140737488351232 ∧ ∀ x ∈ l, ok44 x
set_option maxRecDepth 20000 in
theorem opens25 {H : Type} {enc : TypeId × Value → H} {w : World} : Opens enc Tryz.prog w 25 (Kd.slice 44 k44) ok25 :=
 opens_slice Tryz.underlying25 (by kernel_rfl) (by kernel_rfl) opens44
def ok27 (x : List (S40) × List (S44)) : Prop := ok24 (x.1) ∧ ok25 (x.2)
set_option maxRecDepth 20000 in
theorem opens27 {H : Type} {enc : TypeId × Value → H} {w : World} : Opens enc Tryz.prog w 27 (Kd.pair (Kd.slice 40 k40) (Kd.slice 44 k44)) ok27 :=
 opens_struct Tryz.underlying27 (by kernel_rfl) (zbf rfl (by kernel_rfl) opens24 (opensF_one rfl (by kernel_rfl) opens25))
end Go.Proofs.YtjghephnjkffcaaGreat.PAll
namespace Go.Proofs.YtjghephnjkffcaaGreat.PAll
open Go.RowKit Go.Proofs.YtjghephnjkffcaaGreatW.PrintWords Go.Proofs.YtjghephnjkffcaaGreatW.PrintLast Go.Proofs.YtjghephnjkffcaaGreatW.PrintMore
attribute [local go_sem] zb2 zb0 zcn zcm zbF zbE zb1 zbZ
set_option linter.unusedVariables false
set_option linter.unusedSimpArgs false
def zaT.l0 : Nat → List Int → List Int → Int → Option (Bool)
 | 0, _, _, _ => none
 | k + 1, x0, x1, x5 => if x5 < (x0.length : Int) then (if 0 ≤ x5 then (if x5 < (x1.length : Int) then (if (rd x0 x5) = (rd x1 x5) then (zaT.l0 k x0 x1 (wrap64 (x5 + 1))) else (some false)) else (none)) else (none)) else (some true)
def zaT.f (k : Nat) (l0 : List Int) (l1 : List Int) : Option (Bool) := if (l0.length : Int) = (l1.length : Int) then (zaT.l0 k l0 l1 0) else (some false)
set_option maxHeartbeats 8000000 in
set_option maxRecDepth 100000 in
theorem zaT.calls (k : Nat) (A0 : Option Addr) (c0 : Nat) (l0 : List Int) (A1 : Option Addr) (c1 : Nat) (l1 : List Int) (r : Bool) (w : World) (hr0 : Kd.C (Kd.int .u8) w A0 l0.length l0) (hc0 : l0.length ≤ c0) (hr1 : Kd.C (Kd.int .u8) w A1 l1.length l1) (hc1 : l1.length ≤ c1) (h : zaT.f k l0 l1 = some r) :
  Calls Tryz.prog 40 #[.slice A0 l0.length c0, .slice A1 l1.length c1] w fun e w' => e = .returned (.bool r) ∧ zaQ w w' := by
 have HR0 := zaa.mk hr0
 have HC0 := zaa.mk hc0
 clear hr0 hc0
 have HR1 := zaa.mk hr1
 have HC1 := zaa.mk hc1
 clear hr1 hc1
 have H : (if (l0.length : Int) = (l1.length : Int) then (zaT.l0 k l0 l1 0) else (some false)) = some r := h
 clear h
 by_cases c3 : (l0.length : Int) = (l1.length : Int)
 ·rw [if_pos c3] at H
  have c3b0 : ((l0.length : Int) == (l1.length : Int)) = true := beq_iff_eq.mpr c3
  have c3b1 : ((l0.length : Int) != (l1.length : Int)) = false := bne_eq_false_iff_eq.mpr c3
  have c3b2 : (l0.length == l1.length) = true := by first | simpa using c3 | (simp at c3 ⊢; omega)
  clear c3
  have H' := zaa.mk H
  clear H
  go_enter Tryz.func40, Tryz.ntmps40
  go_wp2
  repeat (go_quiet (fail); try go_wp2)
  go_loopg [5] k (fun kq v5 w' => ∃ (x5_1 : Int), v5 = .int .i64 x5_1 ∧ zaa (zaT.l0 kq l0 l1 x5_1 = some r) ∧ zaa (kq ≤ k) ∧ zaQ w w')
  case atStart => exact ⟨(0), (by first | rfl | (simp; done) | (simp [*]; done)), H', ⟨Nat.le_refl _⟩, by repeat (first | exact zaQ.refl _ | apply zaQ.step)⟩
  case round =>
   clear H'
   try clear c1
   try clear c3
   try clear c3b0
   try clear c3b1
   try clear c3b2
   obtain ⟨x5_1, rfl, HA, HK1, ⟨m1, rfl⟩⟩ := hrel
   cases gk with
   | zero => exact absurd HA.out (by simp [zaT.l0])
   | succ k1 =>
    have H := HA.out
    clear HA
    simp only [zaT.l0] at H
    by_cases c4 : x5_1 < (l0.length : Int)
    ·rw [if_pos c4] at H
     have c4b0 : decide (x5_1 < (l0.length : Int)) = true := decide_eq_true c4
     clear c4
     by_cases c5 : 0 ≤ x5_1
     ·rw [if_pos c5] at H
      have c5b0 : decide (0 ≤ x5_1) = true := decide_eq_true c5
      clear c5
      by_cases c6 : x5_1 < (l1.length : Int)
      ·rw [if_pos c6] at H
       have c6b0 : decide (x5_1 < (l1.length : Int)) = true := decide_eq_true c6
       clear c6
       by_cases c7 : (rd l0 x5_1) = (rd l1 x5_1)
       ·rw [if_pos c7] at H
        have c7b0 : ((rd l0 x5_1) == (rd l1 x5_1)) = true := beq_iff_eq.mpr c7
        have c7b1 : ((rd l0 x5_1) != (rd l1 x5_1)) = false := bne_eq_false_iff_eq.mpr c7
        clear c7
        have H' := zaa.mk H
        clear H
        have p149 : 0 ≤ (x5_1 : Int) := of_decide_eq_true (by first | (with_reducible assumption) | assumption)
        have q149 : x5_1 < (l0.length : Int) := of_decide_eq_true (by first | (with_reducible assumption) | assumption)
        obtain ⟨ad149, e149, hx149_0⟩ := Kd.at_int HR0.out x5_1 p149 q149
        cases e149
        replace p149 := eq_true p149
        replace q149 := eq_true q149
        have p150 : 0 ≤ (x5_1 : Int) := of_decide_eq_true (by first | (with_reducible assumption) | assumption)
        have q150 : x5_1 < (l1.length : Int) := of_decide_eq_true (by first | (with_reducible assumption) | assumption)
        obtain ⟨ad150, e150, hx150_0⟩ := Kd.at_int HR1.out x5_1 p150 q150
        cases e150
        replace p150 := eq_true p150
        replace q150 := eq_true q150
        go_wp2
        repeat (go_quiet (fail); try go_wp2)
        go_roundg k1
        case measure => have := HK1.out; omega
        case rel => exact ⟨(wrap64 (x5_1 + 1)), (by first | rfl | (simp; done) | (simp [*]; done)), H', ⟨by have := HK1.out; omega⟩, by repeat (first | exact zaQ.refl _ | apply zaQ.step)⟩
       ·rw [if_neg c7] at H
        have c7b0 : ((rd l0 x5_1) == (rd l1 x5_1)) = false := beq_eq_false_iff_ne.mpr c7
        have c7b1 : ((rd l0 x5_1) != (rd l1 x5_1)) = true := bne_iff_ne.mpr c7
        obtain rfl := Option.some.inj H
        have p149 : 0 ≤ (x5_1 : Int) := of_decide_eq_true (by first | (with_reducible assumption) | assumption)
        have q149 : x5_1 < (l0.length : Int) := of_decide_eq_true (by first | (with_reducible assumption) | assumption)
        obtain ⟨ad149, e149, hx149_0⟩ := Kd.at_int HR0.out x5_1 p149 q149
        cases e149
        replace p149 := eq_true p149
        replace q149 := eq_true q149
        have p150 : 0 ≤ (x5_1 : Int) := of_decide_eq_true (by first | (with_reducible assumption) | assumption)
        have q150 : x5_1 < (l1.length : Int) := of_decide_eq_true (by first | (with_reducible assumption) | assumption)
        obtain ⟨ad150, e150, hx150_0⟩ := Kd.at_int HR1.out x5_1 p150 q150
        cases e150
        replace p150 := eq_true p150
        replace q150 := eq_true q150
        go_wp2
        repeat (go_quiet (fail); try go_wp2)
        go_ret
        exact ⟨by first | rfl | (simp; done) | (simp [*]; done), by repeat (first | exact zaQ.refl _ | apply zaQ.step)⟩
      ·rw [if_neg c6] at H
       exact absurd H (by simp)
     ·rw [if_neg c5] at H
      exact absurd H (by simp)
    ·rw [if_neg c4] at H
     have c4b0 : decide (x5_1 < (l0.length : Int)) = false := decide_eq_false c4
     clear c4
     obtain rfl := Option.some.inj H
     go_wp2
     repeat (go_quiet (fail); try go_wp2)
     go_ret
     exact ⟨by first | rfl | (simp; done) | (simp [*]; done), by repeat (first | exact zaQ.refl _ | apply zaQ.step)⟩
 ·rw [if_neg c3] at H
  have c3b0 : ((l0.length : Int) == (l1.length : Int)) = false := beq_eq_false_iff_ne.mpr c3
  have c3b1 : ((l0.length : Int) != (l1.length : Int)) = true := bne_iff_ne.mpr c3
  have c3b2 : (l0.length == l1.length) = false := by first | simpa using c3 | (simp at c3 ⊢; omega)
  obtain rfl := Option.some.inj H
  go_enter Tryz.func40, Tryz.ntmps40
  go_wp2
  repeat (go_quiet (fail); try go_wp2)
  go_ret
  exact ⟨by first | rfl | (simp; done) | (simp [*]; done), by repeat (first | exact zaQ.refl _ | apply zaQ.step)⟩
theorem eqA50 (d : Nat) (w : World) (x0 y0 : ByteArray) (x1 y1 : Int) :
  (Op.equalIn (d + 2) 50 (.agg #[.string x0, .int .i64 x1]) (.agg #[.string y0, .int .i64 y1])).run Tryz.prog w = .ok (x0.toList == y0.toList && (x1 == y1)) w := by
 refine eqA_of Tryz.underlying50 (by kernel_rfl) ?_
 refine eqf_cons (by rfl) (by go_simp; rfl) (by go_simp; rfl) (by go_simp) ?_
 exact eqf_last (by rfl) (by go_simp; rfl) (by go_simp; rfl) (by go_simp)
end Go.Proofs.YtjghephnjkffcaaGreat.PAll
namespace Go.Proofs.YtjghephnjkffcaaGreat.PAll
open Go.RowKit Go.Proofs.YtjghephnjkffcaaGreatW.PrintWords Go.Proofs.YtjghephnjkffcaaGreatW.PrintLast Go.Proofs.YtjghephnjkffcaaGreatW.PrintMore
attribute [local go_sem] zb2 zb0 zcn zcm zbF zbE zb1 zbZ
set_option linter.unusedVariables false
set_option linter.unusedSimpArgs false
attribute [local go_sem high] eqA50
def zaI.l0 : Nat → List (S50) → List (S50) → Int → Option (Bool)
 | 0, _, _, _ => none
 | k + 1, x0, x1, x5 => if x5 < (x0.length : Int) then (if 0 ≤ x5 then (if x5 < (x1.length : Int) then (if (!((((zau x0 x5).f0).toList) == (((zau x1 x5).f0).toList)) || (!(((zau x0 x5).f1) == ((zau x1 x5).f1)))) = true then (some false) else (zaI.l0 k x0 x1 (wrap64 (x5 + 1)))) else (none)) else (none)) else (some true)
def zaI.f (k : Nat) (l0 : List (S50)) (l1 : List (S50)) : Option (Bool) := if (l0.length : Int) = (l1.length : Int) then (zaI.l0 k l0 l1 0) else (some false)
set_option maxHeartbeats 8000000 in
set_option maxRecDepth 100000 in
theorem zaI.calls (k : Nat) (A0 : Option Addr) (c0 : Nat) (l0 : List (S50)) (A1 : Option Addr) (c1 : Nat) (l1 : List (S50)) (r : Bool) (w : World) (hr0 : Kd.C k50 w A0 l0.length l0) (hc0 : l0.length ≤ c0) (hr1 : Kd.C k50 w A1 l1.length l1) (hc1 : l1.length ≤ c1) (h : zaI.f k l0 l1 = some r) :
  Calls Tryz.prog 91 #[.slice A0 l0.length c0, .slice A1 l1.length c1] w fun e w' => e = .returned (.bool r) ∧ zaQ w w' := by
 have hu50 := Tryz.underlying50
 have HR0 := zaa.mk hr0
 have HC0 := zaa.mk hc0
 clear hr0 hc0
 have HR1 := zaa.mk hr1
 have HC1 := zaa.mk hc1
 clear hr1 hc1
 have H : (if (l0.length : Int) = (l1.length : Int) then (zaI.l0 k l0 l1 0) else (some false)) = some r := h
 clear h
 by_cases c3 : (l0.length : Int) = (l1.length : Int)
 ·rw [if_pos c3] at H
  have c3b0 : ((l0.length : Int) == (l1.length : Int)) = true := beq_iff_eq.mpr c3
  have c3b1 : ((l0.length : Int) != (l1.length : Int)) = false := bne_eq_false_iff_eq.mpr c3
  have c3b2 : (l0.length == l1.length) = true := by first | simpa using c3 | (simp at c3 ⊢; omega)
  clear c3
  have H' := zaa.mk H
  clear H
  go_enter Tryz.func91, Tryz.ntmps91
  go_wp2
  repeat (go_quiet (fail); try go_wp2)
  go_loopg [5] k (fun kq v5 w' => ∃ (x5_1 : Int), v5 = .int .i64 x5_1 ∧ zaa (zaI.l0 kq l0 l1 x5_1 = some r) ∧ zaa (kq ≤ k) ∧ zaQ w w')
  case atStart => exact ⟨(0), (by first | rfl | (simp; done) | (simp [*]; done)), H', ⟨Nat.le_refl _⟩, by repeat (first | exact zaQ.refl _ | apply zaQ.step)⟩
  case round =>
   clear H'
   try clear c1
   try clear c3
   try clear c3b0
   try clear c3b1
   try clear c3b2
   obtain ⟨x5_1, rfl, HA, HK1, ⟨m1, rfl⟩⟩ := hrel
   cases gk with
   | zero => exact absurd HA.out (by simp [zaI.l0])
   | succ k1 =>
    have H := HA.out
    clear HA
    simp only [zaI.l0] at H
    by_cases c4 : x5_1 < (l0.length : Int)
    ·rw [if_pos c4] at H
     have c4b0 : decide (x5_1 < (l0.length : Int)) = true := decide_eq_true c4
     clear c4
     by_cases c5 : 0 ≤ x5_1
     ·rw [if_pos c5] at H
      have c5b0 : decide (0 ≤ x5_1) = true := decide_eq_true c5
      clear c5
      by_cases c6 : x5_1 < (l1.length : Int)
      ·rw [if_pos c6] at H
       have c6b0 : decide (x5_1 < (l1.length : Int)) = true := decide_eq_true c6
       clear c6
       by_cases c7 : (!((((zau l0 x5_1).f0).toList) == (((zau l1 x5_1).f0).toList)) || (!(((zau l0 x5_1).f1) == ((zau l1 x5_1).f1)))) = true
       ·rw [if_pos c7] at H
        have c7b0 : (!((((zau l0 x5_1).f0).toList) == (((zau l1 x5_1).f0).toList)) || (!(((zau l0 x5_1).f1) == ((zau l1 x5_1).f1)))) = true := c7
        clear c7
        obtain rfl := Option.some.inj H
        have p151 : 0 ≤ (x5_1 : Int) := of_decide_eq_true (by first | (with_reducible assumption) | assumption)
        have q151 : x5_1 < (l0.length : Int) := of_decide_eq_true (by first | (with_reducible assumption) | assumption)
        obtain ⟨ad151, e151, hx151_0, hx151_1⟩ := zb4 HR0.out x5_1 p151 q151
        cases e151
        replace p151 := eq_true p151
        replace q151 := eq_true q151
        have p152 : 0 ≤ (x5_1 : Int) := of_decide_eq_true (by first | (with_reducible assumption) | assumption)
        have q152 : x5_1 < (l1.length : Int) := of_decide_eq_true (by first | (with_reducible assumption) | assumption)
        obtain ⟨ad152, e152, hx152_0, hx152_1⟩ := zb4 HR1.out x5_1 p152 q152
        cases e152
        replace p152 := eq_true p152
        replace q152 := eq_true q152
        go_wp2
        repeat (go_quiet (fail); try go_wp2)
        go_ret
        exact ⟨by first | rfl | (simp; done) | (simp [*]; done), by repeat (first | exact zaQ.refl _ | apply zaQ.step)⟩
       ·rw [if_neg c7] at H
        have c7b0 : (!((((zau l0 x5_1).f0).toList) == (((zau l1 x5_1).f0).toList)) || (!(((zau l0 x5_1).f1) == ((zau l1 x5_1).f1)))) = false := by simpa using c7
        clear c7
        have H' := zaa.mk H
        clear H
        have p151 : 0 ≤ (x5_1 : Int) := of_decide_eq_true (by first | (with_reducible assumption) | assumption)
        have q151 : x5_1 < (l0.length : Int) := of_decide_eq_true (by first | (with_reducible assumption) | assumption)
        obtain ⟨ad151, e151, hx151_0, hx151_1⟩ := zb4 HR0.out x5_1 p151 q151
        cases e151
        replace p151 := eq_true p151
        replace q151 := eq_true q151
        have p152 : 0 ≤ (x5_1 : Int) := of_decide_eq_true (by first | (with_reducible assumption) | assumption)
        have q152 : x5_1 < (l1.length : Int) := of_decide_eq_true (by first | (with_reducible assumption) | assumption)
        obtain ⟨ad152, e152, hx152_0, hx152_1⟩ := zb4 HR1.out x5_1 p152 q152
        cases e152
        replace p152 := eq_true p152
        replace q152 := eq_true q152
        go_wp2
        repeat (go_quiet (fail); try go_wp2)
        go_roundg k1
        case measure => have := HK1.out; omega
        case rel => exact ⟨(wrap64 (x5_1 + 1)), (by first | rfl | (simp; done) | (simp [*]; done)), H', ⟨by have := HK1.out; omega⟩, by repeat (first | exact zaQ.refl _ | apply zaQ.step)⟩
      ·rw [if_neg c6] at H
       exact absurd H (by simp)
     ·rw [if_neg c5] at H
      exact absurd H (by simp)
    ·rw [if_neg c4] at H
     have c4b0 : decide (x5_1 < (l0.length : Int)) = false := decide_eq_false c4
     clear c4
     obtain rfl := Option.some.inj H
     go_wp2
     repeat (go_quiet (fail); try go_wp2)
     go_ret
     exact ⟨by first | rfl | (simp; done) | (simp [*]; done), by repeat (first | exact zaQ.refl _ | apply zaQ.step)⟩
 ·rw [if_neg c3] at H
  have c3b0 : ((l0.length : Int) == (l1.length : Int)) = false := beq_eq_false_iff_ne.mpr c3
  have c3b1 : ((l0.length : Int) != (l1.length : Int)) = true := bne_iff_ne.mpr c3
  have c3b2 : (l0.length == l1.length) = false := by first | simpa using c3 | (simp at c3 ⊢; omega)
  obtain rfl := Option.some.inj H
  go_enter Tryz.func91, Tryz.ntmps91
  go_wp2
  repeat (go_quiet (fail); try go_wp2)
  go_ret
  exact ⟨by first | rfl | (simp; done) | (simp [*]; done), by repeat (first | exact zaQ.refl _ | apply zaQ.step)⟩
def zaL.f (k : Nat) (a0_0 : Int) (l0_1 : List Int) (l0_2 : List (S50)) (a0_3 : ByteArray) (a0_4 : Int) (a0_5 : Int) (a1_0 : Int) (l1_1 : List Int) (l1_2 : List (S50)) (a1_3 : ByteArray) (a1_4 : Int) (a1_5 : Int) : Option (Bool) := if a0_0 = a1_0 then ((zaT.f k l0_1 l1_1).bind fun t155 => (if t155 = true then ((zaI.f k l0_2 l1_2).bind fun t156 => (if t156 = true then (if a0_3.toList = a1_3.toList then (if a0_4 = a1_4 then (some (a0_5 == a1_5)) else (some false)) else (some false)) else (some false))) else (some false))) else (some false)
set_option maxHeartbeats 8000000 in
set_option maxRecDepth 100000 in
theorem zaL.calls (k : Nat) (a0_0 : Int) (A0_1 : Option Addr) (c0_1 : Nat) (l0_1 : List Int) (A0_2 : Option Addr) (c0_2 : Nat) (l0_2 : List (S50)) (a0_3 : ByteArray) (a0_4 : Int) (a0_5 : Int) (a1_0 : Int) (A1_1 : Option Addr) (c1_1 : Nat) (l1_1 : List Int) (A1_2 : Option Addr) (c1_2 : Nat) (l1_2 : List (S50)) (a1_3 : ByteArray) (a1_4 : Int) (a1_5 : Int) (r : Bool) (w : World) (hr0_1 : Kd.C (Kd.int .u8) w A0_1 l0_1.length l0_1) (hc0_1 : l0_1.length ≤ c0_1) (hr0_2 : Kd.C k50 w A0_2 l0_2.length l0_2) (hc0_2 : l0_2.length ≤ c0_2) (hr1_1 : Kd.C (Kd.int .u8) w A1_1 l1_1.length l1_1) (hc1_1 : l1_1.length ≤ c1_1) (hr1_2 : Kd.C k50 w A1_2 l1_2.length l1_2) (hc1_2 : l1_2.length ≤ c1_2) (h : zaL.f k a0_0 l0_1 l0_2 a0_3 a0_4 a0_5 a1_0 l1_1 l1_2 a1_3 a1_4 a1_5 = some r) :
  Calls Tryz.prog 58 #[.agg #[.int .i64 a0_0, .slice A0_1 l0_1.length c0_1, .slice A0_2 l0_2.length c0_2, .string a0_3, .int .i64 a0_4, .int .i64 a0_5], .agg #[.int .i64 a1_0, .slice A1_1 l1_1.length c1_1, .slice A1_2 l1_2.length c1_2, .string a1_3, .int .i64 a1_4, .int .i64 a1_5]] w fun e w' => e = .returned (.bool r) ∧ Below w.heap.size w w' := by
 have hu40 := Tryz.underlying40
 have HR0_1 := zaa.mk hr0_1
 have HC0_1 := zaa.mk hc0_1
 clear hr0_1 hc0_1
 have HR0_2 := zaa.mk hr0_2
 have HC0_2 := zaa.mk hc0_2
 clear hr0_2 hc0_2
 have HR1_1 := zaa.mk hr1_1
 have HC1_1 := zaa.mk hc1_1
 clear hr1_1 hc1_1
 have HR1_2 := zaa.mk hr1_2
 have HC1_2 := zaa.mk hc1_2
 clear hr1_2 hc1_2
 have HB := zaa.mk (Below.refl w.heap.size w)
 have H : (if a0_0 = a1_0 then ((zaT.f k l0_1 l1_1).bind fun t155 => (if t155 = true then ((zaI.f k l0_2 l1_2).bind fun t156 => (if t156 = true then (if a0_3.toList = a1_3.toList then (if a0_4 = a1_4 then (some (a0_5 == a1_5)) else (some false)) else (some false)) else (some false))) else (some false))) else (some false)) = some r := h
 clear h
 by_cases c3 : a0_0 = a1_0
 focus
  rw [if_pos c3] at H
  have c3b0 : (a0_0 == a1_0) = true := beq_iff_eq.mpr c3
  have c3b1 : (a0_0 != a1_0) = false := bne_eq_false_iff_eq.mpr c3
  clear c3
  replace H := Option.bind_eq_some_iff.mp H
  obtain ⟨t155, A40, H⟩ := H
  replace H : (if t155 = true then ((zaI.f k l0_2 l1_2).bind fun t156 => (if t156 = true then (if a0_3.toList = a1_3.toList then (if a0_4 = a1_4 then (some (a0_5 == a1_5)) else (some false)) else (some false)) else (some false))) else (some false)) = some r := H
  have A4 := zaa.mk A40
  clear A40
  by_cases c5 : t155 = true
  focus
   subst c5
   have H1 : ((zaI.f k l0_2 l1_2).bind fun t156 => (if t156 = true then (if a0_3.toList = a1_3.toList then (if a0_4 = a1_4 then (some (a0_5 == a1_5)) else (some false)) else (some false)) else (some false))) = some r := by rw [if_pos rfl] at H; exact H
   clear H
   have H := H1
   clear H1
   replace H := Option.bind_eq_some_iff.mp H
   obtain ⟨t156, A60, H⟩ := H
   replace H : (if t156 = true then (if a0_3.toList = a1_3.toList then (if a0_4 = a1_4 then (some (a0_5 == a1_5)) else (some false)) else (some false)) else (some false)) = some r := H
   have A6 := zaa.mk A60
   clear A60
   by_cases c7 : t156 = true
   focus
    subst c7
    have H1 : (if a0_3.toList = a1_3.toList then (if a0_4 = a1_4 then (some (a0_5 == a1_5)) else (some false)) else (some false)) = some r := by rw [if_pos rfl] at H; exact H
    clear H
    have H := H1
    clear H1
    by_cases c8 : a0_3.toList = a1_3.toList
    focus
     rw [if_pos c8] at H
     have c8b0 : (a0_3.toList == a1_3.toList) = true := beq_iff_eq.mpr c8
     have c8b1 : (a0_3.toList != a1_3.toList) = false := bne_eq_false_iff_eq.mpr c8
     clear c8
     by_cases c9 : a0_4 = a1_4
     focus
      rw [if_pos c9] at H
      have c9b0 : (a0_4 == a1_4) = true := beq_iff_eq.mpr c9
      have c9b1 : (a0_4 != a1_4) = false := bne_eq_false_iff_eq.mpr c9
      clear c9
      obtain rfl := Option.some.inj H
     rotate_left 1
     focus
      rw [if_neg c9] at H
      have c9b0 : (a0_4 == a1_4) = false := beq_eq_false_iff_ne.mpr c9
      have c9b1 : (a0_4 != a1_4) = true := bne_iff_ne.mpr c9
      obtain rfl := Option.some.inj H
    rotate_left 2
    focus
     rw [if_neg c8] at H
     have c8b0 : (a0_3.toList == a1_3.toList) = false := beq_eq_false_iff_ne.mpr c8
     have c8b1 : (a0_3.toList != a1_3.toList) = true := bne_iff_ne.mpr c8
     obtain rfl := Option.some.inj H
   rotate_left 3
   focus
    replace c7 := Bool.eq_false_iff.mpr c7
    subst c7
    have H1 : (some false) = some r := by rw [if_neg (show ¬ (false = true) by decide)] at H; exact H
    clear H
    have H := H1
    clear H1
    obtain rfl := Option.some.inj H
  rotate_left 4
  focus
   replace c5 := Bool.eq_false_iff.mpr c5
   subst c5
   have H1 : (some false) = some r := by rw [if_neg (show ¬ (false = true) by decide)] at H; exact H
   clear H
   have H := H1
   clear H1
   obtain rfl := Option.some.inj H
 rotate_left 5
 focus
  rw [if_neg c3] at H
  have c3b0 : (a0_0 == a1_0) = false := beq_eq_false_iff_ne.mpr c3
  have c3b1 : (a0_0 != a1_0) = true := bne_iff_ne.mpr c3
  obtain rfl := Option.some.inj H
 all_goals
  go_enter Tryz.func58, Tryz.ntmps58
  go_wp2_with (first | ((with_reducible refine zaS (N := 2) rfl ?_); refine zaG ?hg (N := 2) ?hd (cs := #[.int .i64 a0_0, .slice A0_1 l0_1.length c0_1, .slice A0_2 l0_2.length c0_2, .string a0_3, .int .i64 a0_4, .int .i64 a0_5]) (t := 40) ?hr ?_; (case hd => rfl); (case hg => rfl); (case hr => first | (go_simp; done) | (go_simp; rfl)); intro gb153 hg wq1 hbox hb; have n0_ := zaa.mk (zam (by repeat (first | (with_reducible first | exact HB.out | apply zad | apply zab | apply zae) | exact HB.out)) hb); have n1_ := zaa.mk (hbox); have n2_ := zaa.mk ((by rw [hg]; exact (zar (by repeat (first | (with_reducible first | exact HB.out | apply zad | apply zab | apply zae) | exact HB.out))) : w.heap.size ≤ gb153)); have n3_ := zaa.mk ((by rw [hg]; exact (zar (by repeat (first | (with_reducible first | exact HB.out | apply zad | apply zab | apply zae) | exact HB.out))) : w.heap.size ≤ gb153)); clear HB; have HB := n0_; have BK153 := n1_; have GW153 := n2_; have GE153 := n3_; clear n0_ n1_ n2_ n3_; clear hb hbox hg) | ((with_reducible refine zaS (N := 3) rfl ?_); refine zaG ?hg (N := 3) ?hd (cs := #[.int .i64 a1_0, .slice A1_1 l1_1.length c1_1, .slice A1_2 l1_2.length c1_2, .string a1_3, .int .i64 a1_4, .int .i64 a1_5]) (t := 40) ?hr ?_; (case hd => rfl); (case hg => rfl); (case hr => first | (go_simp; done) | (go_simp; rfl)); intro gb154 hg wq2 hbox hb; have n0_ := zaa.mk (zan (g := gb153) (o := .cells #[.int .i64 a0_0, .slice A0_1 l0_1.length c0_1, .slice A0_2 l0_2.length c0_2, .string a0_3, .int .i64 a0_4, .int .i64 a0_5] 40 (0, 0)) (by (with_reducible repeat (first | refine zaj ?_ _ | refine zak ?_ | refine zai ?_ _)); exact BK153.out) hb); have n1_ := zaa.mk (zam (by repeat (first | (with_reducible first | exact HB.out | apply zad | apply zab | apply zae | refine zal ?_ GE153.out) | exact HB.out)) hb); have n2_ := zaa.mk (hbox); have n3_ := zaa.mk ((by rw [hg]; exact (zar (by repeat (first | (with_reducible first | exact HB.out | apply zad | apply zab | apply zae | refine zal ?_ GE153.out) | exact HB.out))) : w.heap.size ≤ gb154)); have n4_ := zaa.mk ((by rw [hg]; exact (zar (by repeat (first | (with_reducible first | exact HB.out | apply zad | apply zab | apply zae | refine zal ?_ GE153.out) | exact HB.out))) : w.heap.size ≤ gb154)); have n5_ := zaa.mk ((by rw [hg]; exact Nat.ne_of_lt (zaO (g := gb153) (o := .cells #[.int .i64 a0_0, .slice A0_1 l0_1.length c0_1, .slice A0_2 l0_2.length c0_2, .string a0_3, .int .i64 a0_4, .int .i64 a0_5] 40 (0, 0)) (by (with_reducible repeat (first | refine zaj ?_ _ | refine zak ?_ | refine zai ?_ _)); exact BK153.out)) : gb153 ≠ gb154)); have n6_ := zaa.mk ((by rw [hg]; exact Nat.ne_of_gt (zaO (g := gb153) (o := .cells #[.int .i64 a0_0, .slice A0_1 l0_1.length c0_1, .slice A0_2 l0_2.length c0_2, .string a0_3, .int .i64 a0_4, .int .i64 a0_5] 40 (0, 0)) (by (with_reducible repeat (first | refine zaj ?_ _ | refine zak ?_ | refine zai ?_ _)); exact BK153.out)) : gb154 ≠ gb153)); clear BK153; clear HB; have BK153 := n0_; have HB := n1_; have BK154 := n2_; have GW154 := n3_; have GE154 := n4_; have NB153_154 := n5_; have NB154_153 := n6_; clear n0_ n1_ n2_ n3_ n4_ n5_ n6_; clear hb hbox hg; have hnbq3 := NB153_154.out; have hncq3 := NB154_153.out; have hczq4_0 : wq2.cell? ⟨gb153, 0, none⟩ = some (.int .i64 a0_0) := (zac BK153.out 0).trans rfl; have hczq4_1 : wq2.cell? ⟨gb153, 1, none⟩ = some (.slice A0_1 l0_1.length c0_1) := (zac BK153.out 1).trans rfl; have hczq4_2 : wq2.cell? ⟨gb153, 2, none⟩ = some (.slice A0_2 l0_2.length c0_2) := (zac BK153.out 2).trans rfl; have hczq4_3 : wq2.cell? ⟨gb153, 3, none⟩ = some (.string a0_3) := (zac BK153.out 3).trans rfl; have hczq4_4 : wq2.cell? ⟨gb153, 4, none⟩ = some (.int .i64 a0_4) := (zac BK153.out 4).trans rfl; have hczq4_5 : wq2.cell? ⟨gb153, 5, none⟩ = some (.int .i64 a0_5) := (zac BK153.out 5).trans rfl; have hfzq4_0 := zaf BK153.out 0; have hfzq4_1 := zaf BK153.out 1; have hfzq4_2 := zaf BK153.out 2; have hfzq4_3 := zaf BK153.out 3; have hfzq4_4 := zaf BK153.out 4; have hfzq4_5 := zaf BK153.out 5; have hczq5_0 : wq2.cell? ⟨gb154, 0, none⟩ = some (.int .i64 a1_0) := (zac BK154.out 0).trans rfl; have hczq5_1 : wq2.cell? ⟨gb154, 1, none⟩ = some (.slice A1_1 l1_1.length c1_1) := (zac BK154.out 1).trans rfl; have hczq5_2 : wq2.cell? ⟨gb154, 2, none⟩ = some (.slice A1_2 l1_2.length c1_2) := (zac BK154.out 2).trans rfl; have hczq5_3 : wq2.cell? ⟨gb154, 3, none⟩ = some (.string a1_3) := (zac BK154.out 3).trans rfl; have hczq5_4 : wq2.cell? ⟨gb154, 4, none⟩ = some (.int .i64 a1_4) := (zac BK154.out 4).trans rfl; have hczq5_5 : wq2.cell? ⟨gb154, 5, none⟩ = some (.int .i64 a1_5) := (zac BK154.out 5).trans rfl; have hfzq5_0 := zaf BK154.out 0; have hfzq5_1 := zaf BK154.out 1; have hfzq5_2 := zaf BK154.out 2; have hfzq5_3 := zaf BK154.out 3; have hfzq5_4 := zaf BK154.out 4; have hfzq5_5 := zaf BK154.out 5) | (go_at_call 40; (with_reducible refine (zaT.calls k _ _ l0_1 _ _ l1_1 _ _ ?side1 ?side2 ?side3 ?side4 A4.out).mono ?_); (case side1 => repeat (first | exact (Kd.C_below HR0_1.out HB.out) | (with_reducible refine Kd.C_alloc ?_ _) | (with_reducible refine Kd.C_drewN ?_ _) | (with_reducible refine Kd.C_drew ?_))); (case side2 => exact HC0_1.out); (case side3 => repeat (first | exact (Kd.C_below HR1_1.out HB.out) | (with_reducible refine Kd.C_alloc ?_ _) | (with_reducible refine Kd.C_drewN ?_ _) | (with_reducible refine Kd.C_drew ?_))); (case side4 => exact HC1_1.out); rintro e w' ⟨rfl, ⟨nd, rfl⟩⟩) | (go_at_call 91; (with_reducible refine (zaI.calls k _ _ l0_2 _ _ l1_2 _ _ ?side1 ?side2 ?side3 ?side4 A6.out).mono ?_); (case side1 => repeat (first | exact (Kd.C_below HR0_2.out (by repeat (first | (with_reducible first | exact HB.out | apply zad | apply zab | apply zae | refine zal ?_ GE153.out | refine zal ?_ GE154.out) | exact HB.out))) | (with_reducible refine Kd.C_alloc ?_ _) | (with_reducible refine Kd.C_drewN ?_ _) | (with_reducible refine Kd.C_drew ?_))); (case side2 => exact HC0_2.out); (case side3 => repeat (first | exact (Kd.C_below HR1_2.out (by repeat (first | (with_reducible first | exact HB.out | apply zad | apply zab | apply zae | refine zal ?_ GE153.out | refine zal ?_ GE154.out) | exact HB.out))) | (with_reducible refine Kd.C_alloc ?_ _) | (with_reducible refine Kd.C_drewN ?_ _) | (with_reducible refine Kd.C_drew ?_))); (case side4 => exact HC1_2.out); rintro e w' ⟨rfl, ⟨nd, rfl⟩⟩))
  go_ret
  exact ⟨by first | rfl | (simp [zaw, zav] <;> rfl) | (simp [*, zaw, zav] <;> rfl), by repeat (first | (with_reducible first | exact HB.out | apply zad | apply zab | apply zae | refine zal ?_ GE153.out | refine zal ?_ GE154.out) | exact HB.out)⟩
def zay.l0 : Nat → List (S40) → List (S40) → Int → Option (Bool)
 | 0, _, _, _ => none
 | k + 1, x0, x1, x5 => if x5 < (x0.length : Int) then (if 0 ≤ x5 then (if x5 < (x1.length : Int) then ((zaL.f k ((zah x0 x5).f0) ((zah x0 x5).f1) ((zah x0 x5).f2) ((zah x0 x5).f3) ((zah x0 x5).f4) ((zah x0 x5).f5) ((zah x1 x5).f0) ((zah x1 x5).f1) ((zah x1 x5).f2) ((zah x1 x5).f3) ((zah x1 x5).f4) ((zah x1 x5).f5)).bind fun t171 => (if t171 = true then (zay.l0 k x0 x1 (wrap64 (x5 + 1))) else (some false))) else (none)) else (none)) else (some true)
def zay.f (k : Nat) (l0 : List (S40)) (l1 : List (S40)) : Option (Bool) := if (l0.length : Int) = (l1.length : Int) then (zay.l0 k l0 l1 0) else (some false)
def zay.T6 : Bool × List (List Nat × List Nat) := (true, [([], []), ([], []), ([0, 1], [0, 1]), ([2], [2]), ([], []), ([], []), ([4, 5], [4, 5]), ([6], [6]), ([3, 7], [3, 7]), ([8], [8])])
def zay.B6 : List Nat := [0, 0, 3, 7, 0, 0, 48, 112, 255, 511]
theorem zay.tab6 : rtab .any (opsOf Tryz.f26 6) = zay.T6 := by kernel_rfl
theorem zay.bits6 : waitsOk zay.T6.2 zay.B6 = true := by kernel_rfl
set_option maxHeartbeats 8000000 in
set_option maxRecDepth 100000 in
theorem zay.calls (k : Nat) (A0 : Option Addr) (c0 : Nat) (l0 : List (S40)) (A1 : Option Addr) (c1 : Nat) (l1 : List (S40)) (r : Bool) (w : World) (hr0 : Kd.C k40 w A0 l0.length l0) (hc0 : l0.length ≤ c0) (hr1 : Kd.C k40 w A1 l1.length l1) (hc1 : l1.length ≤ c1) (h : zay.f k l0 l1 = some r) :
  Calls Tryz.prog 26 #[.slice A0 l0.length c0, .slice A1 l1.length c1] w fun e w' => e = .returned (.bool r) ∧ Below w.heap.size w w' := by
 have hu40 := Tryz.underlying40
 have HR0 := zaa.mk hr0
 have HC0 := zaa.mk hc0
 clear hr0 hc0
 have HR1 := zaa.mk hr1
 have HC1 := zaa.mk hc1
 clear hr1 hc1
 have HB := zaa.mk (Below.refl w.heap.size w)
 have H : (if (l0.length : Int) = (l1.length : Int) then (zay.l0 k l0 l1 0) else (some false)) = some r := h
 clear h
 by_cases c3 : (l0.length : Int) = (l1.length : Int)
 ·rw [if_pos c3] at H
  have c3b0 : ((l0.length : Int) == (l1.length : Int)) = true := beq_iff_eq.mpr c3
  have c3b1 : ((l0.length : Int) != (l1.length : Int)) = false := bne_eq_false_iff_eq.mpr c3
  have c3b2 : (l0.length == l1.length) = true := by first | simpa using c3 | (simp at c3 ⊢; omega)
  clear c3
  have H' := zaa.mk H
  clear H
  go_enter Tryz.func26, Tryz.ntmps26
  go_wp2
  go_loopg [5] k (fun kq v5 w' => ∃ (x5_1 : Int), v5 = .int .i64 x5_1 ∧ zaa (zay.l0 kq l0 l1 x5_1 = some r) ∧ zaa (kq ≤ k) ∧ zaa (Below w.heap.size w w'))
  case atStart => exact ⟨(0), (by first | rfl | (simp; done) | (simp [*]; done)), H', ⟨Nat.le_refl _⟩, ⟨by repeat (first | (with_reducible first | exact HB.out | apply zad | apply zab | apply zae) | exact HB.out)⟩⟩
  case round =>
   clear H'
   try clear c1
   try clear c3
   try clear c3b0
   try clear c3b1
   try clear c3b2
   obtain ⟨x5_1, rfl, HA, HK1, HB⟩ := hrel
   cases gk with
   | zero => exact absurd HA.out (by simp [zay.l0])
   | succ k1 =>
    have H := HA.out
    clear HA
    simp only [zay.l0] at H
    by_cases c4 : x5_1 < (l0.length : Int)
    ·rw [if_pos c4] at H
     have c4b0 : decide (x5_1 < (l0.length : Int)) = true := decide_eq_true c4
     clear c4
     by_cases c5 : 0 ≤ x5_1
     ·rw [if_pos c5] at H
      have c5b0 : decide (0 ≤ x5_1) = true := decide_eq_true c5
      clear c5
      by_cases c6 : x5_1 < (l1.length : Int)
      ·rw [if_pos c6] at H
       have c6b0 : decide (x5_1 < (l1.length : Int)) = true := decide_eq_true c6
       clear c6
       replace H := Option.bind_eq_some_iff.mp H
       obtain ⟨t171, A70, H⟩ := H
       replace H : (if t171 = true then (zay.l0 k1 l0 l1 (wrap64 (x5_1 + 1))) else (some false)) = some r := H
       have A7 := zaa.mk A70
       clear A70
       by_cases c8 : t171 = true
       ·subst c8
        have H1 : (zay.l0 k1 l0 l1 (wrap64 (x5_1 + 1))) = some r := by rw [if_pos rfl] at H; exact H
        clear H
        have H := H1
        clear H1
        have H' := zaa.mk H
        clear H
        try go_wp2
        have n0_ := zaa.mk (zae HB.out)
        clear HB
        have HB := n0_
        clear n0_
        have p169 : 0 ≤ (x5_1 : Int) := of_decide_eq_true (by first | (with_reducible assumption) | assumption)
        have q169 : x5_1 < (l0.length : Int) := of_decide_eq_true (by first | (with_reducible assumption) | assumption)
        obtain ⟨ad169, A169_1, c169_1, A169_2, c169_2, e169, hx169_0, hx169_1, hx169_2, hx169_3, hx169_4, hx169_5, hl169_1, hi169_1, hl169_2, hi169_2⟩ := zbc HR0.out x5_1 p169 q169
        have hw169_5 := hx169_5
        have hw169_4 := hx169_4
        have hw169_3 := hx169_3
        have hw169_2 := hx169_2
        have hw169_1 := hx169_1
        have hw169_0 := hx169_0
        cases e169
        replace hx169_0 := (HB.out.cell (World.block_lt_of_cell? w _ hx169_0)).trans hx169_0
        replace hx169_1 := (HB.out.cell (World.block_lt_of_cell? w _ hx169_1)).trans hx169_1
        replace hx169_2 := (HB.out.cell (World.block_lt_of_cell? w _ hx169_2)).trans hx169_2
        replace hx169_3 := (HB.out.cell (World.block_lt_of_cell? w _ hx169_3)).trans hx169_3
        replace hx169_4 := (HB.out.cell (World.block_lt_of_cell? w _ hx169_4)).trans hx169_4
        replace hx169_5 := (HB.out.cell (World.block_lt_of_cell? w _ hx169_5)).trans hx169_5
        have HR169_1 := zaa.mk hi169_1
        have HC169_1 := zaa.mk hl169_1
        clear hi169_1 hl169_1
        have HR169_2 := zaa.mk hi169_2
        have HC169_2 := zaa.mk hl169_2
        clear hi169_2 hl169_2
        replace p169 := eq_true p169
        replace q169 := eq_true q169
        have p170 : 0 ≤ (x5_1 : Int) := of_decide_eq_true (by first | (with_reducible assumption) | assumption)
        have q170 : x5_1 < (l1.length : Int) := of_decide_eq_true (by first | (with_reducible assumption) | assumption)
        obtain ⟨ad170, A170_1, c170_1, A170_2, c170_2, e170, hx170_0, hx170_1, hx170_2, hx170_3, hx170_4, hx170_5, hl170_1, hi170_1, hl170_2, hi170_2⟩ := zbc HR1.out x5_1 p170 q170
        have hw170_5 := hx170_5
        have hw170_4 := hx170_4
        have hw170_3 := hx170_3
        have hw170_2 := hx170_2
        have hw170_1 := hx170_1
        have hw170_0 := hx170_0
        cases e170
        replace hx170_0 := (HB.out.cell (World.block_lt_of_cell? w _ hx170_0)).trans hx170_0
        replace hx170_1 := (HB.out.cell (World.block_lt_of_cell? w _ hx170_1)).trans hx170_1
        replace hx170_2 := (HB.out.cell (World.block_lt_of_cell? w _ hx170_2)).trans hx170_2
        replace hx170_3 := (HB.out.cell (World.block_lt_of_cell? w _ hx170_3)).trans hx170_3
        replace hx170_4 := (HB.out.cell (World.block_lt_of_cell? w _ hx170_4)).trans hx170_4
        replace hx170_5 := (HB.out.cell (World.block_lt_of_cell? w _ hx170_5)).trans hx170_5
        have HR170_1 := zaa.mk hi170_1
        have HC170_1 := zaa.mk hl170_1
        clear hi170_1 hl170_1
        have HR170_2 := zaa.mk hi170_2
        have HC170_2 := zaa.mk hl170_2
        clear hi170_2 hl170_2
        replace p170 := eq_true p170
        replace q170 := eq_true q170
        refine start_ (n := 10) (S := fun w' => w'.cell? (ad169.add ((x5_1).toNat * 6)) = some (.int .i64 ((zah l0 x5_1).f0)) ∧ w'.cell? ⟨(ad169.add ((x5_1).toNat * 6)).block, (ad169.add ((x5_1).toNat * 6)).off + 1, none⟩ = some (.slice A169_1 ((zah l0 x5_1).f1).length c169_1) ∧ w'.cell? ⟨(ad169.add ((x5_1).toNat * 6)).block, (ad169.add ((x5_1).toNat * 6)).off + 2, none⟩ = some (.slice A169_2 ((zah l0 x5_1).f2).length c169_2) ∧ w'.cell? ⟨(ad169.add ((x5_1).toNat * 6)).block, (ad169.add ((x5_1).toNat * 6)).off + 3, none⟩ = some (.string ((zah l0 x5_1).f3)) ∧ w'.cell? ⟨(ad169.add ((x5_1).toNat * 6)).block, (ad169.add ((x5_1).toNat * 6)).off + 4, none⟩ = some (.int .i64 ((zah l0 x5_1).f4)) ∧ w'.cell? ⟨(ad169.add ((x5_1).toNat * 6)).block, (ad169.add ((x5_1).toNat * 6)).off + 5, none⟩ = some (.int .i64 ((zah l0 x5_1).f5)) ∧ w'.cell? (ad170.add ((x5_1).toNat * 6)) = some (.int .i64 ((zah l1 x5_1).f0)) ∧ w'.cell? ⟨(ad170.add ((x5_1).toNat * 6)).block, (ad170.add ((x5_1).toNat * 6)).off + 1, none⟩ = some (.slice A170_1 ((zah l1 x5_1).f1).length c170_1) ∧ w'.cell? ⟨(ad170.add ((x5_1).toNat * 6)).block, (ad170.add ((x5_1).toNat * 6)).off + 2, none⟩ = some (.slice A170_2 ((zah l1 x5_1).f2).length c170_2) ∧ w'.cell? ⟨(ad170.add ((x5_1).toNat * 6)).block, (ad170.add ((x5_1).toNat * 6)).off + 3, none⟩ = some (.string ((zah l1 x5_1).f3)) ∧ w'.cell? ⟨(ad170.add ((x5_1).toNat * 6)).block, (ad170.add ((x5_1).toNat * 6)).off + 4, none⟩ = some (.int .i64 ((zah l1 x5_1).f4)) ∧ w'.cell? ⟨(ad170.add ((x5_1).toNat * 6)).block, (ad170.add ((x5_1).toNat * 6)).off + 5, none⟩ = some (.int .i64 ((zah l1 x5_1).f5))) (ds := []) #[false, false, false, false, false, false, false, false, false, false] (by kernel_rfl) rfl rfl ⟨((HB.out.cell (World.block_lt_of_cell? w _ hw169_0)).trans hw169_0), ((HB.out.cell (World.block_lt_of_cell? w _ hw169_1)).trans hw169_1), ((HB.out.cell (World.block_lt_of_cell? w _ hw169_2)).trans hw169_2), ((HB.out.cell (World.block_lt_of_cell? w _ hw169_3)).trans hw169_3), ((HB.out.cell (World.block_lt_of_cell? w _ hw169_4)).trans hw169_4), ((HB.out.cell (World.block_lt_of_cell? w _ hw169_5)).trans hw169_5), ((HB.out.cell (World.block_lt_of_cell? w _ hw170_0)).trans hw170_0), ((HB.out.cell (World.block_lt_of_cell? w _ hw170_1)).trans hw170_1), ((HB.out.cell (World.block_lt_of_cell? w _ hw170_2)).trans hw170_2), ((HB.out.cell (World.block_lt_of_cell? w _ hw170_3)).trans hw170_3), ((HB.out.cell (World.block_lt_of_cell? w _ hw170_4)).trans hw170_4), ((HB.out.cell (World.block_lt_of_cell? w _ hw170_5)).trans hw170_5)⟩ (fun hHeld => ?_); refine with_tabW zay.tab6 zay.bits6 (fun HT_ HW_ => ?_)
        generalize wr.drew = w9 at HB HR169_1 HR169_2 HR170_1 HR170_2 hx169_0 hx169_1 hx169_2 hx169_3 hx169_4 hx169_5 hx170_0 hx170_1 hx170_2 hx170_3 hx170_4 hx170_5 hHeld ⊢
        refine zbO (i := 0) (N := some 17) (v := ?_) (a' := ?_) #[true, false, false, false, false, false, false, false, false, false] rfl rfl (any_of HT_.out (by kernel_rfl)) (fun _ _ _ h => h) (Or.inl ⟨by rfl, ?_⟩) ?_ ?_
        rotate_left
        ·intro w'
         go_simp
         with_reducible rfl
        rotate_left
        ·simp only [Act.put, List.setIfInBounds_toArray, List.set_cons_zero, List.set_cons_succ, zbo, zbr]
         rfl
        refine zbO (i := 1) (N := some 18) (v := ?_) (a' := ?_) #[true, true, false, false, false, false, false, false, false, false] rfl rfl (any_of HT_.out (by kernel_rfl)) (fun _ _ _ h => h) (Or.inl ⟨by rfl, ?_⟩) ?_ ?_
        rotate_left
        ·intro w'
         go_simp
         with_reducible rfl
        rotate_left
        ·simp only [Act.put, List.setIfInBounds_toArray, List.set_cons_zero, List.set_cons_succ, zbo, zbr]
         rfl
        refine zbO (i := 2) (N := some 19) (v := ?_) (a' := ?_) #[true, true, true, false, false, false, false, false, false, false] rfl rfl (any_of HT_.out (by kernel_rfl)) (fun _ _ _ h => h) (Or.inl ⟨by rfl, ?_⟩) ?_ ?_
        rotate_left
        ·intro w'
         go_simp
         with_reducible rfl
        rotate_left
        ·simp only [Act.put, List.setIfInBounds_toArray, List.set_cons_zero, List.set_cons_succ, zbo, zbr]
         rfl
        refine zbO (i := 4) (N := some 21) (v := ?_) (a' := ?_) #[true, true, true, false, true, false, false, false, false, false] rfl rfl (any_of HT_.out (by kernel_rfl)) (fun _ _ _ h => h) (Or.inl ⟨by rfl, ?_⟩) ?_ ?_
        rotate_left
        ·intro w'
         go_simp
         with_reducible rfl
        rotate_left
        ·simp only [Act.put, List.setIfInBounds_toArray, List.set_cons_zero, List.set_cons_succ, zbo, zbr]
         rfl
        refine zbO (i := 5) (N := some 22) (v := ?_) (a' := ?_) #[true, true, true, false, true, true, false, false, false, false] rfl rfl (any_of HT_.out (by kernel_rfl)) (fun _ _ _ h => h) (Or.inl ⟨by rfl, ?_⟩) ?_ ?_
        rotate_left
        ·intro w'
         go_simp
         with_reducible rfl
        rotate_left
        ·simp only [Act.put, List.setIfInBounds_toArray, List.set_cons_zero, List.set_cons_succ, zbo, zbr]
         rfl
        refine zbO (i := 6) (N := some 23) (v := ?_) (a' := ?_) #[true, true, true, false, true, true, true, false, false, false] rfl rfl (any_of HT_.out (by kernel_rfl)) (fun _ _ _ h => h) (Or.inl ⟨by rfl, ?_⟩) ?_ ?_
        rotate_left
        ·intro w'
         go_simp
         with_reducible rfl
        rotate_left
        ·simp only [Act.put, List.setIfInBounds_toArray, List.set_cons_zero, List.set_cons_succ, zbo, zbr]
         rfl
        refine take_ (i := 3) (N := some 20) (v := ?_) (a' := ?_) #[true, true, true, true, true, true, true, false, false, false] rfl rfl (take_ofW HT_.out HW_.out (by kernel_rfl)) (fun _ _ _ h => h) (Or.inl ⟨by rfl, ?_⟩) hHeld ?_ ?_
        rotate_left
        ·rintro w' ⟨s0, s1, s2, s3, s4, s5, s6, s7, s8, s9, s10, s11⟩
         go_simp
         with_reducible rfl
        rotate_left
        ·simp only [Act.put, List.setIfInBounds_toArray, List.set_cons_zero, List.set_cons_succ, zbo, zbr]
         rfl
        refine take_ (i := 7) (N := some 24) (v := ?_) (a' := ?_) #[true, true, true, true, true, true, true, true, false, false] rfl rfl (take_ofW HT_.out HW_.out (by kernel_rfl)) (fun _ _ _ h => h) (Or.inl ⟨by rfl, ?_⟩) hHeld ?_ ?_
        rotate_left
        ·rintro w' ⟨s0, s1, s2, s3, s4, s5, s6, s7, s8, s9, s10, s11⟩
         go_simp
         with_reducible rfl
        rotate_left
        ·simp only [Act.put, List.setIfInBounds_toArray, List.set_cons_zero, List.set_cons_succ, zbo, zbr]
         rfl
        refine one_ (i := 8) (N := some 25) #[true, true, true, true, true, true, true, true, true, false] rfl rfl (one_of HT_.out (by kernel_rfl)) (by decide) (fun K hK => ?_)
        refine goes_ Tryz.func58 (by kernel_rfl) rfl #[.agg #[.int .i64 ((zah l0 x5_1).f0), .slice A169_1 ((zah l0 x5_1).f1).length c169_1, .slice A169_2 ((zah l0 x5_1).f2).length c169_2, .string ((zah l0 x5_1).f3), .int .i64 ((zah l0 x5_1).f4), .int .i64 ((zah l0 x5_1).f5)], .agg #[.int .i64 ((zah l1 x5_1).f0), .slice A170_1 ((zah l1 x5_1).f1).length c170_1, .slice A170_2 ((zah l1 x5_1).f2).length c170_2, .string ((zah l1 x5_1).f3), .int .i64 ((zah l1 x5_1).f4), .int .i64 ((zah l1 x5_1).f5)]] (by rfl) rfl rfl (by (try simp only [List.map_toArray, List.map_cons, List.map_nil]); first | done | rfl | (simp only [List.length_drop, List.length_take]; rfl)) ?_
        with_reducible refine (zaL.calls k1 ((zah l0 x5_1).f0) _ _ ((zah l0 x5_1).f1) _ _ ((zah l0 x5_1).f2) ((zah l0 x5_1).f3) ((zah l0 x5_1).f4) ((zah l0 x5_1).f5) ((zah l1 x5_1).f0) _ _ ((zah l1 x5_1).f1) _ _ ((zah l1 x5_1).f2) ((zah l1 x5_1).f3) ((zah l1 x5_1).f4) ((zah l1 x5_1).f5) true _ ?side1 ?side2 ?side3 ?side4 ?side5 ?side6 ?side7 ?side8 A7.out).mono ?_
        (case side1 => repeat (first | exact (Kd.C_below HR169_1.out HB.out) | (with_reducible refine Kd.C_alloc ?_ _) | (with_reducible refine Kd.C_drewN ?_ _) | (with_reducible refine Kd.C_drew ?_)))
        (case side2 => exact HC169_1.out)
        (case side3 => repeat (first | exact (Kd.C_below HR169_2.out HB.out) | (with_reducible refine Kd.C_alloc ?_ _) | (with_reducible refine Kd.C_drewN ?_ _) | (with_reducible refine Kd.C_drew ?_)))
        (case side4 => exact HC169_2.out)
        (case side5 => repeat (first | exact (Kd.C_below HR170_1.out HB.out) | (with_reducible refine Kd.C_alloc ?_ _) | (with_reducible refine Kd.C_drewN ?_ _) | (with_reducible refine Kd.C_drew ?_)))
        (case side6 => exact HC170_1.out)
        (case side7 => repeat (first | exact (Kd.C_below HR170_2.out HB.out) | (with_reducible refine Kd.C_alloc ?_ _) | (with_reducible refine Kd.C_drewN ?_ _) | (with_reducible refine Kd.C_drew ?_)))
        (case side8 => exact HC170_2.out)
        rintro e w10 ⟨rfl, hb⟩
        refine ⟨_, rfl, ?_⟩
        have n0_ := zaa.mk (zam (by repeat (first | (with_reducible first | exact HB.out | apply zad | apply zab | apply zae) | exact HB.out)) hb)
        clear HB
        have HB := n0_
        clear n0_
        (try clear hb)
        (try clear hb2)
        (try clear hk)
        (try clear hi)
        refine hK.out _ _ ⟨((HB.out.cell (World.block_lt_of_cell? w _ hw169_0)).trans hw169_0), ((HB.out.cell (World.block_lt_of_cell? w _ hw169_1)).trans hw169_1), ((HB.out.cell (World.block_lt_of_cell? w _ hw169_2)).trans hw169_2), ((HB.out.cell (World.block_lt_of_cell? w _ hw169_3)).trans hw169_3), ((HB.out.cell (World.block_lt_of_cell? w _ hw169_4)).trans hw169_4), ((HB.out.cell (World.block_lt_of_cell? w _ hw169_5)).trans hw169_5), ((HB.out.cell (World.block_lt_of_cell? w _ hw170_0)).trans hw170_0), ((HB.out.cell (World.block_lt_of_cell? w _ hw170_1)).trans hw170_1), ((HB.out.cell (World.block_lt_of_cell? w _ hw170_2)).trans hw170_2), ((HB.out.cell (World.block_lt_of_cell? w _ hw170_3)).trans hw170_3), ((HB.out.cell (World.block_lt_of_cell? w _ hw170_4)).trans hw170_4), ((HB.out.cell (World.block_lt_of_cell? w _ hw170_5)).trans hw170_5)⟩ (fun hHeld => ?_)
        clear hK K
        refine norm_ (a' := ?_) ?_ ?_
        rotate_left
        ·show Act.put _ (some 25) _ = _
         simp only [Act.put, List.setIfInBounds_toArray, List.set_cons_zero, List.set_cons_succ, zbo, zbr]
         rfl
        refine zbO (i := 9) (N := some 26) (v := ?_) (a' := ?_) #[true, true, true, true, true, true, true, true, true, true] rfl rfl (any_of HT_.out (by kernel_rfl)) (fun _ _ _ h => h) (Or.inl ⟨by rfl, ?_⟩) ?_ ?_
        rotate_left
        ·intro w'
         go_simp
         with_reducible rfl
        rotate_left
        ·simp only [Act.put, List.setIfInBounds_toArray, List.set_cons_zero, List.set_cons_succ, zbo, zbr]
         rfl
        refine done_ (done_of HT_.out (by kernel_rfl)) ?_
        try go_wp2
        go_roundg k1
        case measure => have := HK1.out; omega
        case rel => exact ⟨(wrap64 (x5_1 + 1)), (by first | rfl | (simp; done) | (simp [*]; done)), H', ⟨by have := HK1.out; omega⟩, ⟨by repeat (first | (with_reducible first | exact HB.out | apply zad | apply zab | apply zae) | exact HB.out)⟩⟩
       ·replace c8 := Bool.eq_false_iff.mpr c8
        subst c8
        have H1 : (some false) = some r := by rw [if_neg (show ¬ (false = true) by decide)] at H; exact H
        clear H
        have H := H1
        clear H1
        obtain rfl := Option.some.inj H
        try go_wp2
        have n0_ := zaa.mk (zae HB.out)
        clear HB
        have HB := n0_
        clear n0_
        have p169 : 0 ≤ (x5_1 : Int) := of_decide_eq_true (by first | (with_reducible assumption) | assumption)
        have q169 : x5_1 < (l0.length : Int) := of_decide_eq_true (by first | (with_reducible assumption) | assumption)
        obtain ⟨ad169, A169_1, c169_1, A169_2, c169_2, e169, hx169_0, hx169_1, hx169_2, hx169_3, hx169_4, hx169_5, hl169_1, hi169_1, hl169_2, hi169_2⟩ := zbc HR0.out x5_1 p169 q169
        have hw169_5 := hx169_5
        have hw169_4 := hx169_4
        have hw169_3 := hx169_3
        have hw169_2 := hx169_2
        have hw169_1 := hx169_1
        have hw169_0 := hx169_0
        cases e169
        replace hx169_0 := (HB.out.cell (World.block_lt_of_cell? w _ hx169_0)).trans hx169_0
        replace hx169_1 := (HB.out.cell (World.block_lt_of_cell? w _ hx169_1)).trans hx169_1
        replace hx169_2 := (HB.out.cell (World.block_lt_of_cell? w _ hx169_2)).trans hx169_2
        replace hx169_3 := (HB.out.cell (World.block_lt_of_cell? w _ hx169_3)).trans hx169_3
        replace hx169_4 := (HB.out.cell (World.block_lt_of_cell? w _ hx169_4)).trans hx169_4
        replace hx169_5 := (HB.out.cell (World.block_lt_of_cell? w _ hx169_5)).trans hx169_5
        have HR169_1 := zaa.mk hi169_1
        have HC169_1 := zaa.mk hl169_1
        clear hi169_1 hl169_1
        have HR169_2 := zaa.mk hi169_2
        have HC169_2 := zaa.mk hl169_2
        clear hi169_2 hl169_2
        replace p169 := eq_true p169
        replace q169 := eq_true q169
        have p170 : 0 ≤ (x5_1 : Int) := of_decide_eq_true (by first | (with_reducible assumption) | assumption)
        have q170 : x5_1 < (l1.length : Int) := of_decide_eq_true (by first | (with_reducible assumption) | assumption)
        obtain ⟨ad170, A170_1, c170_1, A170_2, c170_2, e170, hx170_0, hx170_1, hx170_2, hx170_3, hx170_4, hx170_5, hl170_1, hi170_1, hl170_2, hi170_2⟩ := zbc HR1.out x5_1 p170 q170
        have hw170_5 := hx170_5
        have hw170_4 := hx170_4
        have hw170_3 := hx170_3
        have hw170_2 := hx170_2
        have hw170_1 := hx170_1
        have hw170_0 := hx170_0
        cases e170
        replace hx170_0 := (HB.out.cell (World.block_lt_of_cell? w _ hx170_0)).trans hx170_0
        replace hx170_1 := (HB.out.cell (World.block_lt_of_cell? w _ hx170_1)).trans hx170_1
        replace hx170_2 := (HB.out.cell (World.block_lt_of_cell? w _ hx170_2)).trans hx170_2
        replace hx170_3 := (HB.out.cell (World.block_lt_of_cell? w _ hx170_3)).trans hx170_3
        replace hx170_4 := (HB.out.cell (World.block_lt_of_cell? w _ hx170_4)).trans hx170_4
        replace hx170_5 := (HB.out.cell (World.block_lt_of_cell? w _ hx170_5)).trans hx170_5
        have HR170_1 := zaa.mk hi170_1
        have HC170_1 := zaa.mk hl170_1
        clear hi170_1 hl170_1
        have HR170_2 := zaa.mk hi170_2
        have HC170_2 := zaa.mk hl170_2
        clear hi170_2 hl170_2
        replace p170 := eq_true p170
        replace q170 := eq_true q170
        refine start_ (n := 10) (S := fun w' => w'.cell? (ad169.add ((x5_1).toNat * 6)) = some (.int .i64 ((zah l0 x5_1).f0)) ∧ w'.cell? ⟨(ad169.add ((x5_1).toNat * 6)).block, (ad169.add ((x5_1).toNat * 6)).off + 1, none⟩ = some (.slice A169_1 ((zah l0 x5_1).f1).length c169_1) ∧ w'.cell? ⟨(ad169.add ((x5_1).toNat * 6)).block, (ad169.add ((x5_1).toNat * 6)).off + 2, none⟩ = some (.slice A169_2 ((zah l0 x5_1).f2).length c169_2) ∧ w'.cell? ⟨(ad169.add ((x5_1).toNat * 6)).block, (ad169.add ((x5_1).toNat * 6)).off + 3, none⟩ = some (.string ((zah l0 x5_1).f3)) ∧ w'.cell? ⟨(ad169.add ((x5_1).toNat * 6)).block, (ad169.add ((x5_1).toNat * 6)).off + 4, none⟩ = some (.int .i64 ((zah l0 x5_1).f4)) ∧ w'.cell? ⟨(ad169.add ((x5_1).toNat * 6)).block, (ad169.add ((x5_1).toNat * 6)).off + 5, none⟩ = some (.int .i64 ((zah l0 x5_1).f5)) ∧ w'.cell? (ad170.add ((x5_1).toNat * 6)) = some (.int .i64 ((zah l1 x5_1).f0)) ∧ w'.cell? ⟨(ad170.add ((x5_1).toNat * 6)).block, (ad170.add ((x5_1).toNat * 6)).off + 1, none⟩ = some (.slice A170_1 ((zah l1 x5_1).f1).length c170_1) ∧ w'.cell? ⟨(ad170.add ((x5_1).toNat * 6)).block, (ad170.add ((x5_1).toNat * 6)).off + 2, none⟩ = some (.slice A170_2 ((zah l1 x5_1).f2).length c170_2) ∧ w'.cell? ⟨(ad170.add ((x5_1).toNat * 6)).block, (ad170.add ((x5_1).toNat * 6)).off + 3, none⟩ = some (.string ((zah l1 x5_1).f3)) ∧ w'.cell? ⟨(ad170.add ((x5_1).toNat * 6)).block, (ad170.add ((x5_1).toNat * 6)).off + 4, none⟩ = some (.int .i64 ((zah l1 x5_1).f4)) ∧ w'.cell? ⟨(ad170.add ((x5_1).toNat * 6)).block, (ad170.add ((x5_1).toNat * 6)).off + 5, none⟩ = some (.int .i64 ((zah l1 x5_1).f5))) (ds := []) #[false, false, false, false, false, false, false, false, false, false] (by kernel_rfl) rfl rfl ⟨((HB.out.cell (World.block_lt_of_cell? w _ hw169_0)).trans hw169_0), ((HB.out.cell (World.block_lt_of_cell? w _ hw169_1)).trans hw169_1), ((HB.out.cell (World.block_lt_of_cell? w _ hw169_2)).trans hw169_2), ((HB.out.cell (World.block_lt_of_cell? w _ hw169_3)).trans hw169_3), ((HB.out.cell (World.block_lt_of_cell? w _ hw169_4)).trans hw169_4), ((HB.out.cell (World.block_lt_of_cell? w _ hw169_5)).trans hw169_5), ((HB.out.cell (World.block_lt_of_cell? w _ hw170_0)).trans hw170_0), ((HB.out.cell (World.block_lt_of_cell? w _ hw170_1)).trans hw170_1), ((HB.out.cell (World.block_lt_of_cell? w _ hw170_2)).trans hw170_2), ((HB.out.cell (World.block_lt_of_cell? w _ hw170_3)).trans hw170_3), ((HB.out.cell (World.block_lt_of_cell? w _ hw170_4)).trans hw170_4), ((HB.out.cell (World.block_lt_of_cell? w _ hw170_5)).trans hw170_5)⟩ (fun hHeld => ?_); refine with_tabW zay.tab6 zay.bits6 (fun HT_ HW_ => ?_)
        generalize wr.drew = w11 at HB HR169_1 HR169_2 HR170_1 HR170_2 hx169_0 hx169_1 hx169_2 hx169_3 hx169_4 hx169_5 hx170_0 hx170_1 hx170_2 hx170_3 hx170_4 hx170_5 hHeld ⊢
        refine zbO (i := 0) (N := some 17) (v := ?_) (a' := ?_) #[true, false, false, false, false, false, false, false, false, false] rfl rfl (any_of HT_.out (by kernel_rfl)) (fun _ _ _ h => h) (Or.inl ⟨by rfl, ?_⟩) ?_ ?_
        rotate_left
        ·intro w'
         go_simp
         with_reducible rfl
        rotate_left
        ·simp only [Act.put, List.setIfInBounds_toArray, List.set_cons_zero, List.set_cons_succ, zbo, zbr]
         rfl
        refine zbO (i := 1) (N := some 18) (v := ?_) (a' := ?_) #[true, true, false, false, false, false, false, false, false, false] rfl rfl (any_of HT_.out (by kernel_rfl)) (fun _ _ _ h => h) (Or.inl ⟨by rfl, ?_⟩) ?_ ?_
        rotate_left
        ·intro w'
         go_simp
         with_reducible rfl
        rotate_left
        ·simp only [Act.put, List.setIfInBounds_toArray, List.set_cons_zero, List.set_cons_succ, zbo, zbr]
         rfl
        refine zbO (i := 2) (N := some 19) (v := ?_) (a' := ?_) #[true, true, true, false, false, false, false, false, false, false] rfl rfl (any_of HT_.out (by kernel_rfl)) (fun _ _ _ h => h) (Or.inl ⟨by rfl, ?_⟩) ?_ ?_
        rotate_left
        ·intro w'
         go_simp
         with_reducible rfl
        rotate_left
        ·simp only [Act.put, List.setIfInBounds_toArray, List.set_cons_zero, List.set_cons_succ, zbo, zbr]
         rfl
        refine zbO (i := 4) (N := some 21) (v := ?_) (a' := ?_) #[true, true, true, false, true, false, false, false, false, false] rfl rfl (any_of HT_.out (by kernel_rfl)) (fun _ _ _ h => h) (Or.inl ⟨by rfl, ?_⟩) ?_ ?_
        rotate_left
        ·intro w'
         go_simp
         with_reducible rfl
        rotate_left
        ·simp only [Act.put, List.setIfInBounds_toArray, List.set_cons_zero, List.set_cons_succ, zbo, zbr]
         rfl
        refine zbO (i := 5) (N := some 22) (v := ?_) (a' := ?_) #[true, true, true, false, true, true, false, false, false, false] rfl rfl (any_of HT_.out (by kernel_rfl)) (fun _ _ _ h => h) (Or.inl ⟨by rfl, ?_⟩) ?_ ?_
        rotate_left
        ·intro w'
         go_simp
         with_reducible rfl
        rotate_left
        ·simp only [Act.put, List.setIfInBounds_toArray, List.set_cons_zero, List.set_cons_succ, zbo, zbr]
         rfl
        refine zbO (i := 6) (N := some 23) (v := ?_) (a' := ?_) #[true, true, true, false, true, true, true, false, false, false] rfl rfl (any_of HT_.out (by kernel_rfl)) (fun _ _ _ h => h) (Or.inl ⟨by rfl, ?_⟩) ?_ ?_
        rotate_left
        ·intro w'
         go_simp
         with_reducible rfl
        rotate_left
        ·simp only [Act.put, List.setIfInBounds_toArray, List.set_cons_zero, List.set_cons_succ, zbo, zbr]
         rfl
        refine take_ (i := 3) (N := some 20) (v := ?_) (a' := ?_) #[true, true, true, true, true, true, true, false, false, false] rfl rfl (take_ofW HT_.out HW_.out (by kernel_rfl)) (fun _ _ _ h => h) (Or.inl ⟨by rfl, ?_⟩) hHeld ?_ ?_
        rotate_left
        ·rintro w' ⟨s0, s1, s2, s3, s4, s5, s6, s7, s8, s9, s10, s11⟩
         go_simp
         with_reducible rfl
        rotate_left
        ·simp only [Act.put, List.setIfInBounds_toArray, List.set_cons_zero, List.set_cons_succ, zbo, zbr]
         rfl
        refine take_ (i := 7) (N := some 24) (v := ?_) (a' := ?_) #[true, true, true, true, true, true, true, true, false, false] rfl rfl (take_ofW HT_.out HW_.out (by kernel_rfl)) (fun _ _ _ h => h) (Or.inl ⟨by rfl, ?_⟩) hHeld ?_ ?_
        rotate_left
        ·rintro w' ⟨s0, s1, s2, s3, s4, s5, s6, s7, s8, s9, s10, s11⟩
         go_simp
         with_reducible rfl
        rotate_left
        ·simp only [Act.put, List.setIfInBounds_toArray, List.set_cons_zero, List.set_cons_succ, zbo, zbr]
         rfl
        refine one_ (i := 8) (N := some 25) #[true, true, true, true, true, true, true, true, true, false] rfl rfl (one_of HT_.out (by kernel_rfl)) (by decide) (fun K hK => ?_)
        refine goes_ Tryz.func58 (by kernel_rfl) rfl #[.agg #[.int .i64 ((zah l0 x5_1).f0), .slice A169_1 ((zah l0 x5_1).f1).length c169_1, .slice A169_2 ((zah l0 x5_1).f2).length c169_2, .string ((zah l0 x5_1).f3), .int .i64 ((zah l0 x5_1).f4), .int .i64 ((zah l0 x5_1).f5)], .agg #[.int .i64 ((zah l1 x5_1).f0), .slice A170_1 ((zah l1 x5_1).f1).length c170_1, .slice A170_2 ((zah l1 x5_1).f2).length c170_2, .string ((zah l1 x5_1).f3), .int .i64 ((zah l1 x5_1).f4), .int .i64 ((zah l1 x5_1).f5)]] (by rfl) rfl rfl (by (try simp only [List.map_toArray, List.map_cons, List.map_nil]); first | done | rfl | (simp only [List.length_drop, List.length_take]; rfl)) ?_
        with_reducible refine (zaL.calls k1 ((zah l0 x5_1).f0) _ _ ((zah l0 x5_1).f1) _ _ ((zah l0 x5_1).f2) ((zah l0 x5_1).f3) ((zah l0 x5_1).f4) ((zah l0 x5_1).f5) ((zah l1 x5_1).f0) _ _ ((zah l1 x5_1).f1) _ _ ((zah l1 x5_1).f2) ((zah l1 x5_1).f3) ((zah l1 x5_1).f4) ((zah l1 x5_1).f5) false _ ?side1 ?side2 ?side3 ?side4 ?side5 ?side6 ?side7 ?side8 A7.out).mono ?_
        (case side1 => repeat (first | exact (Kd.C_below HR169_1.out HB.out) | (with_reducible refine Kd.C_alloc ?_ _) | (with_reducible refine Kd.C_drewN ?_ _) | (with_reducible refine Kd.C_drew ?_)))
        (case side2 => exact HC169_1.out)
        (case side3 => repeat (first | exact (Kd.C_below HR169_2.out HB.out) | (with_reducible refine Kd.C_alloc ?_ _) | (with_reducible refine Kd.C_drewN ?_ _) | (with_reducible refine Kd.C_drew ?_)))
        (case side4 => exact HC169_2.out)
        (case side5 => repeat (first | exact (Kd.C_below HR170_1.out HB.out) | (with_reducible refine Kd.C_alloc ?_ _) | (with_reducible refine Kd.C_drewN ?_ _) | (with_reducible refine Kd.C_drew ?_)))
        (case side6 => exact HC170_1.out)
        (case side7 => repeat (first | exact (Kd.C_below HR170_2.out HB.out) | (with_reducible refine Kd.C_alloc ?_ _) | (with_reducible refine Kd.C_drewN ?_ _) | (with_reducible refine Kd.C_drew ?_)))
        (case side8 => exact HC170_2.out)
        rintro e w12 ⟨rfl, hb⟩
        refine ⟨_, rfl, ?_⟩
        have n0_ := zaa.mk (zam (by repeat (first | (with_reducible first | exact HB.out | apply zad | apply zab | apply zae) | exact HB.out)) hb)
        clear HB
        have HB := n0_
        clear n0_
        (try clear hb)
        (try clear hb2)
        (try clear hk)
        (try clear hi)
        refine hK.out _ _ ⟨((HB.out.cell (World.block_lt_of_cell? w _ hw169_0)).trans hw169_0), ((HB.out.cell (World.block_lt_of_cell? w _ hw169_1)).trans hw169_1), ((HB.out.cell (World.block_lt_of_cell? w _ hw169_2)).trans hw169_2), ((HB.out.cell (World.block_lt_of_cell? w _ hw169_3)).trans hw169_3), ((HB.out.cell (World.block_lt_of_cell? w _ hw169_4)).trans hw169_4), ((HB.out.cell (World.block_lt_of_cell? w _ hw169_5)).trans hw169_5), ((HB.out.cell (World.block_lt_of_cell? w _ hw170_0)).trans hw170_0), ((HB.out.cell (World.block_lt_of_cell? w _ hw170_1)).trans hw170_1), ((HB.out.cell (World.block_lt_of_cell? w _ hw170_2)).trans hw170_2), ((HB.out.cell (World.block_lt_of_cell? w _ hw170_3)).trans hw170_3), ((HB.out.cell (World.block_lt_of_cell? w _ hw170_4)).trans hw170_4), ((HB.out.cell (World.block_lt_of_cell? w _ hw170_5)).trans hw170_5)⟩ (fun hHeld => ?_)
        clear hK K
        refine norm_ (a' := ?_) ?_ ?_
        rotate_left
        ·show Act.put _ (some 25) _ = _
         simp only [Act.put, List.setIfInBounds_toArray, List.set_cons_zero, List.set_cons_succ, zbo, zbr]
         rfl
        refine zbO (i := 9) (N := some 26) (v := ?_) (a' := ?_) #[true, true, true, true, true, true, true, true, true, true] rfl rfl (any_of HT_.out (by kernel_rfl)) (fun _ _ _ h => h) (Or.inl ⟨by rfl, ?_⟩) ?_ ?_
        rotate_left
        ·intro w'
         go_simp
         with_reducible rfl
        rotate_left
        ·simp only [Act.put, List.setIfInBounds_toArray, List.set_cons_zero, List.set_cons_succ, zbo, zbr]
         rfl
        refine done_ (done_of HT_.out (by kernel_rfl)) ?_
        try go_wp2
        go_ret
        exact ⟨by first | rfl | (simp [zaw, zav] <;> rfl) | (simp [*, zaw, zav] <;> rfl), by repeat (first | (with_reducible first | exact HB.out | apply zad | apply zab | apply zae) | exact HB.out)⟩
      ·rw [if_neg c6] at H
       exact absurd H (by simp)
     ·rw [if_neg c5] at H
      exact absurd H (by simp)
    ·rw [if_neg c4] at H
     have c4b0 : decide (x5_1 < (l0.length : Int)) = false := decide_eq_false c4
     clear c4
     obtain rfl := Option.some.inj H
     go_wp2
     go_ret
     exact ⟨by first | rfl | (simp [zaw, zav] <;> rfl) | (simp [*, zaw, zav] <;> rfl), by repeat (first | (with_reducible first | exact HB.out | apply zad | apply zab | apply zae) | exact HB.out)⟩
 ·rw [if_neg c3] at H
  have c3b0 : ((l0.length : Int) == (l1.length : Int)) = false := beq_eq_false_iff_ne.mpr c3
  have c3b1 : ((l0.length : Int) != (l1.length : Int)) = true := bne_iff_ne.mpr c3
  have c3b2 : (l0.length == l1.length) = false := by first | simpa using c3 | (simp at c3 ⊢; omega)
  obtain rfl := Option.some.inj H
  go_enter Tryz.func26, Tryz.ntmps26
  go_wp2
  go_ret
  exact ⟨by first | rfl | (simp [zaw, zav] <;> rfl) | (simp [*, zaw, zav] <;> rfl), by repeat (first | (with_reducible first | exact HB.out | apply zad | apply zab | apply zae) | exact HB.out)⟩
def za7.f (k : Nat) (l0_0 : List (S40)) (l1_0 : List (S40)) : Option (Bool) := (zay.f k l0_0 l1_0).bind fun t174 => (some t174)
set_option maxHeartbeats 8000000 in
set_option maxRecDepth 100000 in
theorem za7.calls (k : Nat) (A0_0 : Option Addr) (c0_0 : Nat) (l0_0 : List (S40)) (A1_0 : Option Addr) (c1_0 : Nat) (l1_0 : List (S40)) (r : Bool) (w : World) (hr0_0 : Kd.C k40 w A0_0 l0_0.length l0_0) (hc0_0 : l0_0.length ≤ c0_0) (hr1_0 : Kd.C k40 w A1_0 l1_0.length l1_0) (hc1_0 : l1_0.length ≤ c1_0) (h : za7.f k l0_0 l1_0 = some r) :
  Calls Tryz.prog 17 #[.agg #[.slice A0_0 l0_0.length c0_0], .agg #[.slice A1_0 l1_0.length c1_0]] w fun e w' => e = .returned (.bool r) ∧ Below w.heap.size w w' := by
 have hu24 := Tryz.underlying24
 have HR0_0 := zaa.mk hr0_0
 have HC0_0 := zaa.mk hc0_0
 clear hr0_0 hc0_0
 have HR1_0 := zaa.mk hr1_0
 have HC1_0 := zaa.mk hc1_0
 clear hr1_0 hc1_0
 have HB := zaa.mk (Below.refl w.heap.size w)
 have H : ((zay.f k l0_0 l1_0).bind fun t174 => (some t174)) = some r := h
 clear h
 replace H := Option.bind_eq_some_iff.mp H
 obtain ⟨t174, A30, H⟩ := H
 replace H : (some t174) = some r := H
 have A3 := zaa.mk A30
 clear A30
 obtain rfl := Option.some.inj H
 go_enter Tryz.func17, Tryz.ntmps17
 go_wp2_with (first | ((with_reducible refine zaS (N := 2) rfl ?_); refine zaG ?hg (N := 2) ?hd (cs := #[.slice A0_0 l0_0.length c0_0]) (t := 24) ?hr ?_; (case hd => rfl); (case hg => rfl); (case hr => first | (go_simp; done) | (go_simp; rfl)); intro gb172 hg w4 hbox hb; have n0_ := zaa.mk (zam (by repeat (first | (with_reducible first | exact HB.out | apply zad | apply zab | apply zae) | exact HB.out)) hb); have n1_ := zaa.mk (hbox); have n2_ := zaa.mk ((by rw [hg]; exact (zar (by repeat (first | (with_reducible first | exact HB.out | apply zad | apply zab | apply zae) | exact HB.out))) : w.heap.size ≤ gb172)); have n3_ := zaa.mk ((by rw [hg]; exact (zar (by repeat (first | (with_reducible first | exact HB.out | apply zad | apply zab | apply zae) | exact HB.out))) : w.heap.size ≤ gb172)); clear HB; have HB := n0_; have BK172 := n1_; have GW172 := n2_; have GE172 := n3_; clear n0_ n1_ n2_ n3_; clear hb hbox hg) | ((with_reducible refine zaS (N := 3) rfl ?_); refine zaG ?hg (N := 3) ?hd (cs := #[.slice A1_0 l1_0.length c1_0]) (t := 24) ?hr ?_; (case hd => rfl); (case hg => rfl); (case hr => first | (go_simp; done) | (go_simp; rfl)); intro gb173 hg w5 hbox hb; have n0_ := zaa.mk (zan (g := gb172) (o := .cells #[.slice A0_0 l0_0.length c0_0] 24 (0, 0)) (by (with_reducible repeat (first | refine zaj ?_ _ | refine zak ?_ | refine zai ?_ _)); exact BK172.out) hb); have n1_ := zaa.mk (zam (by repeat (first | (with_reducible first | exact HB.out | apply zad | apply zab | apply zae | refine zal ?_ GE172.out) | exact HB.out)) hb); have n2_ := zaa.mk (hbox); have n3_ := zaa.mk ((by rw [hg]; exact (zar (by repeat (first | (with_reducible first | exact HB.out | apply zad | apply zab | apply zae | refine zal ?_ GE172.out) | exact HB.out))) : w.heap.size ≤ gb173)); have n4_ := zaa.mk ((by rw [hg]; exact (zar (by repeat (first | (with_reducible first | exact HB.out | apply zad | apply zab | apply zae | refine zal ?_ GE172.out) | exact HB.out))) : w.heap.size ≤ gb173)); have n5_ := zaa.mk ((by rw [hg]; exact Nat.ne_of_lt (zaO (g := gb172) (o := .cells #[.slice A0_0 l0_0.length c0_0] 24 (0, 0)) (by (with_reducible repeat (first | refine zaj ?_ _ | refine zak ?_ | refine zai ?_ _)); exact BK172.out)) : gb172 ≠ gb173)); have n6_ := zaa.mk ((by rw [hg]; exact Nat.ne_of_gt (zaO (g := gb172) (o := .cells #[.slice A0_0 l0_0.length c0_0] 24 (0, 0)) (by (with_reducible repeat (first | refine zaj ?_ _ | refine zak ?_ | refine zai ?_ _)); exact BK172.out)) : gb173 ≠ gb172)); clear BK172; clear HB; have BK172 := n0_; have HB := n1_; have BK173 := n2_; have GW173 := n3_; have GE173 := n4_; have NB172_173 := n5_; have NB173_172 := n6_; clear n0_ n1_ n2_ n3_ n4_ n5_ n6_; clear hb hbox hg; have hnb6 := NB172_173.out; have hnc6 := NB173_172.out; have hcz7_0 : w5.cell? ⟨gb172, 0, none⟩ = some (.slice A0_0 l0_0.length c0_0) := (zac BK172.out 0).trans rfl; have hfz7_0 := zaf BK172.out 0; have hcz8_0 : w5.cell? ⟨gb173, 0, none⟩ = some (.slice A1_0 l1_0.length c1_0) := (zac BK173.out 0).trans rfl; have hfz8_0 := zaf BK173.out 0) | ((with_reducible refine zaY (f := 26) rfl ?_); refine zbI (some 9) rfl rfl Tryz.func26 (by kernel_rfl) rfl #[.slice A0_0 l0_0.length c0_0, .slice A1_0 l1_0.length c1_0] rfl (by (try simp only [List.map_toArray, List.map_cons, List.map_nil]); first | done | rfl | (simp only [List.length_drop, List.length_take]; rfl)) ?_; (with_reducible refine (zay.calls k _ _ l0_0 _ _ l1_0 t174 _ ?side1 ?side2 ?side3 ?side4 A3.out).mono ?_); (case side1 => repeat (first | exact (Kd.C_below HR0_0.out HB.out) | (with_reducible refine Kd.C_alloc ?_ _) | (with_reducible refine Kd.C_drewN ?_ _) | (with_reducible refine Kd.C_drew ?_))); (case side2 => exact HC0_0.out); (case side3 => repeat (first | exact (Kd.C_below HR1_0.out HB.out) | (with_reducible refine Kd.C_alloc ?_ _) | (with_reducible refine Kd.C_drewN ?_ _) | (with_reducible refine Kd.C_drew ?_))); (case side4 => exact HC1_0.out); rintro e w9 ⟨rfl, hb⟩; refine ⟨_, rfl, ?_⟩; have n0_ := zaa.mk (zan (g := gb172) (o := .cells #[.slice A0_0 l0_0.length c0_0] 24 (0, 0)) (by (with_reducible repeat (first | refine zaj ?_ _ | refine zak ?_ | refine zai ?_ _)); exact BK172.out) hb); have n1_ := zaa.mk (zan (g := gb173) (o := .cells #[.slice A1_0 l1_0.length c1_0] 24 (0, 0)) (by (with_reducible repeat (first | refine zaj ?_ _ | refine zak ?_ | refine zai ?_ _)); exact BK173.out) hb); have n2_ := zaa.mk (zam (by repeat (first | (with_reducible first | exact HB.out | apply zad | apply zab | apply zae | refine zal ?_ GE172.out | refine zal ?_ GE173.out) | exact HB.out)) hb); clear BK172; clear BK173; clear HB; have BK172 := n0_; have BK173 := n1_; have HB := n2_; clear n0_ n1_ n2_; (try clear hb); (try clear hb2); (try clear hk); (try clear hi)))
 go_ret
 exact ⟨by first | rfl | (simp [zaw, zav] <;> rfl) | (simp [*, zaw, zav] <;> rfl), by repeat (first | (with_reducible first | exact HB.out | apply zad | apply zab | apply zae | refine zal ?_ GE172.out | refine zal ?_ GE173.out) | exact HB.out)⟩
def zbq.f (l0_0 : List (S40)) (a1 : Int) : Option (Bool) := if a1 ≥ 0 then (if a1 < (l0_0.length : Int) then (if 0 ≤ a1 then (some (((zah l0_0 a1).f0) != 0)) else (none)) else (some false)) else (some false)
set_option maxHeartbeats 8000000 in
set_option maxRecDepth 100000 in
theorem zbq.calls (A0_0 : Option Addr) (c0_0 : Nat) (l0_0 : List (S40)) (a1 : Int) (r : Bool) (w : World) (hr0_0 : Kd.C k40 w A0_0 l0_0.length l0_0) (hc0_0 : l0_0.length ≤ c0_0) (h : zbq.f l0_0 a1 = some r) :
  Calls Tryz.prog 28 #[.agg #[.slice A0_0 l0_0.length c0_0], .int .i64 a1] w fun e w' => e = .returned (.bool r) ∧ Below w.heap.size w w' := by
 have hu24 := Tryz.underlying24
 have HR0_0 := zaa.mk hr0_0
 have HC0_0 := zaa.mk hc0_0
 clear hr0_0 hc0_0
 have HB := zaa.mk (Below.refl w.heap.size w)
 have H : (if a1 ≥ 0 then (if a1 < (l0_0.length : Int) then (if 0 ≤ a1 then (some (((zah l0_0 a1).f0) != 0)) else (none)) else (some false)) else (some false)) = some r := h
 clear h
 by_cases c3 : a1 ≥ 0
 focus
  rw [if_pos c3] at H
  have c3b0 : decide (0 ≤ a1) = true := decide_eq_true c3
  clear c3
  by_cases c4 : a1 < (l0_0.length : Int)
  focus
   rw [if_pos c4] at H
   have c4b0 : decide (a1 < (l0_0.length : Int)) = true := decide_eq_true c4
   clear c4
   by_cases c5 : 0 ≤ a1
   focus
    rw [if_pos c5] at H
    have c5b0 : decide (0 ≤ a1) = true := decide_eq_true c5
    clear c5
    obtain rfl := Option.some.inj H
   rotate_left 1
   ·rw [if_neg c5] at H
    exact absurd H (by simp)
  rotate_left 1
  focus
   rw [if_neg c4] at H
   have c4b0 : decide (a1 < (l0_0.length : Int)) = false := decide_eq_false c4
   clear c4
   obtain rfl := Option.some.inj H
 rotate_left 2
 focus
  rw [if_neg c3] at H
  have c3b0 : decide (0 ≤ a1) = false := decide_eq_false c3
  clear c3
  obtain rfl := Option.some.inj H
 all_goals
  go_enter Tryz.func28, Tryz.ntmps28
  go_wp2_with (first | ((with_reducible refine zaS (N := 2) rfl ?_); (try (refine zby (by rfl) ?_; dsimp only)); refine zaG ?hg (N := 2) ?hd (cs := #[.slice A0_0 l0_0.length c0_0]) (t := 24) ?hr ?_; (case hd => rfl); (case hg => rfl); (case hr => first | (go_simp; done) | (go_simp; rfl)); intro gb175 hg wq1 hbox hb; have n0_ := zaa.mk (zam (by repeat (first | (with_reducible first | exact HB.out | apply zad | apply zab | apply zae) | exact HB.out)) hb); have n1_ := zaa.mk (hbox); have n2_ := zaa.mk ((by rw [hg]; exact (zar (by repeat (first | (with_reducible first | exact HB.out | apply zad | apply zab | apply zae) | exact HB.out))) : w.heap.size ≤ gb175)); have n3_ := zaa.mk ((by rw [hg]; exact (zar (by repeat (first | (with_reducible first | exact HB.out | apply zad | apply zab | apply zae) | exact HB.out))) : w.heap.size ≤ gb175)); clear HB; have HB := n0_; have BK175 := n1_; have GW175 := n2_; have GE175 := n3_; clear n0_ n1_ n2_ n3_; clear hb hbox hg; have hczq2_0 : wq1.cell? ⟨gb175, 0, none⟩ = some (.slice A0_0 l0_0.length c0_0) := (zac BK175.out 0).trans rfl; have hfzq2_0 := zaf BK175.out 0; have p176 : 0 ≤ (a1 : Int) := of_decide_eq_true (by first | (with_reducible assumption) | assumption); have q176 : a1 < (l0_0.length : Int) := of_decide_eq_true (by first | (with_reducible assumption) | assumption); obtain ⟨ad176, A176_1, c176_1, A176_2, c176_2, e176, hx176_0, hx176_1, hx176_2, hx176_3, hx176_4, hx176_5, hl176_1, hi176_1, hl176_2, hi176_2⟩ := zbc HR0_0.out a1 p176 q176; cases e176; replace hx176_0 := (HB.out.cell (World.block_lt_of_cell? w _ hx176_0)).trans hx176_0; replace hx176_1 := (HB.out.cell (World.block_lt_of_cell? w _ hx176_1)).trans hx176_1; replace hx176_2 := (HB.out.cell (World.block_lt_of_cell? w _ hx176_2)).trans hx176_2; replace hx176_3 := (HB.out.cell (World.block_lt_of_cell? w _ hx176_3)).trans hx176_3; replace hx176_4 := (HB.out.cell (World.block_lt_of_cell? w _ hx176_4)).trans hx176_4; replace hx176_5 := (HB.out.cell (World.block_lt_of_cell? w _ hx176_5)).trans hx176_5; have HR176_1 := zaa.mk hi176_1; have HC176_1 := zaa.mk hl176_1; clear hi176_1 hl176_1; have HR176_2 := zaa.mk hi176_2; have HC176_2 := zaa.mk hl176_2; clear hi176_2 hl176_2; replace p176 := eq_true p176; replace q176 := eq_true q176) | ((with_reducible refine zaS (N := 2) rfl ?_); (try (refine zby (by rfl) ?_; dsimp only)); refine zaG ?hg (N := 2) ?hd (cs := #[.slice A0_0 l0_0.length c0_0]) (t := 24) ?hr ?_; (case hd => rfl); (case hg => rfl); (case hr => first | (go_simp; done) | (go_simp; rfl)); intro gb175 hg wq1 hbox hb; have n0_ := zaa.mk (zam (by repeat (first | (with_reducible first | exact HB.out | apply zad | apply zab | apply zae) | exact HB.out)) hb); have n1_ := zaa.mk (hbox); have n2_ := zaa.mk ((by rw [hg]; exact (zar (by repeat (first | (with_reducible first | exact HB.out | apply zad | apply zab | apply zae) | exact HB.out))) : w.heap.size ≤ gb175)); have n3_ := zaa.mk ((by rw [hg]; exact (zar (by repeat (first | (with_reducible first | exact HB.out | apply zad | apply zab | apply zae) | exact HB.out))) : w.heap.size ≤ gb175)); clear HB; have HB := n0_; have BK175 := n1_; have GW175 := n2_; have GE175 := n3_; clear n0_ n1_ n2_ n3_; clear hb hbox hg; have hczq2_0 : wq1.cell? ⟨gb175, 0, none⟩ = some (.slice A0_0 l0_0.length c0_0) := (zac BK175.out 0).trans rfl; have hfzq2_0 := zaf BK175.out 0) | ((with_reducible refine zaS (N := 2) rfl ?_); (try (refine zby (by rfl) ?_; dsimp only)); refine zaG ?hg (N := 2) ?hd (cs := #[.slice A0_0 l0_0.length c0_0]) (t := 24) ?hr ?_; (case hd => rfl); (case hg => rfl); (case hr => first | (go_simp; done) | (go_simp; rfl)); intro gb175 hg wq1 hbox hb; have n0_ := zaa.mk (zam (by repeat (first | (with_reducible first | exact HB.out | apply zad | apply zab | apply zae) | exact HB.out)) hb); have n1_ := zaa.mk (hbox); have n2_ := zaa.mk ((by rw [hg]; exact (zar (by repeat (first | (with_reducible first | exact HB.out | apply zad | apply zab | apply zae) | exact HB.out))) : w.heap.size ≤ gb175)); have n3_ := zaa.mk ((by rw [hg]; exact (zar (by repeat (first | (with_reducible first | exact HB.out | apply zad | apply zab | apply zae) | exact HB.out))) : w.heap.size ≤ gb175)); clear HB; have HB := n0_; have BK175 := n1_; have GW175 := n2_; have GE175 := n3_; clear n0_ n1_ n2_ n3_; clear hb hbox hg))
  go_ret
  exact ⟨by first | rfl | (simp [zaw, zav] <;> rfl) | (simp [*, zaw, zav] <;> rfl), by repeat (first | (with_reducible first | exact HB.out | apply zad | apply zab | apply zae | refine zal ?_ GE175.out) | exact HB.out)⟩
def zbz.f (a0 : Int) (a1 : Int) : Option (Int) := if (IntKind.u64.wrap (a1)) = 0 then (none) else (some (wrap64 (Int.tmod (IntKind.u64.wrap (a0)) (IntKind.u64.wrap (a1)))))
set_option maxHeartbeats 8000000 in
set_option maxRecDepth 100000 in
theorem zbz.calls (a0 : Int) (a1 : Int) (r : Int) (w : World) (h : zbz.f a0 a1 = some r) :
  Calls Tryz.prog 29 #[.int .i64 a0, .int .i64 a1] w fun e w' => e = .returned (.int .i64 r) ∧ zaQ w w' := by
 have H : (if (IntKind.u64.wrap (a1)) = 0 then (none) else (some (wrap64 (Int.tmod (IntKind.u64.wrap (a0)) (IntKind.u64.wrap (a1)))))) = some r := h
 clear h
 by_cases c3 : (IntKind.u64.wrap (a1)) = 0
 ·rw [if_pos c3] at H
  exact absurd H (by simp)
 ·rw [if_neg c3] at H
  have c3b0 : ((IntKind.u64.wrap (a1)) == 0) = false := beq_eq_false_iff_ne.mpr c3
  have c3b1 : ((IntKind.u64.wrap (a1)) != 0) = true := bne_iff_ne.mpr c3
  obtain rfl := Option.some.inj H
  go_enter Tryz.func29, Tryz.ntmps29
  go_wp2
  go_ret
  exact ⟨by first | rfl | (simp; done) | (simp [*]; done), by repeat (first | exact zaQ.refl _ | apply zaQ.step)⟩
def zaF.l0 : Nat → List Int → List Int → Int → Option (List Int)
 | 0, _, _, _ => none
 | k + 1, x0, x3, x4 => if x4 < (x0.length : Int) then (if 0 ≤ x4 then (if x3.length < 140737488355328 then (zaF.l0 k x0 (x3 ++ [rd x0 x4]) (wrap64 (x4 + 1))) else (none)) else (none)) else (some x3)
def zaF.f (k : Nat) (l0 : List Int) : Option (List Int) := zaF.l0 k l0 ([] : List Int) 0
set_option maxHeartbeats 8000000 in
set_option maxRecDepth 100000 in
theorem zaF.calls (k : Nat) (A0 : Option Addr) (c0 : Nat) (l0 : List Int) (r : List Int) (w : World) (hr0 : Kd.C (Kd.int .u8) w A0 l0.length l0) (hc0 : l0.length ≤ c0) (h : zaF.f k l0 = some r) :
  Calls Tryz.prog 43 #[.slice A0 l0.length c0] w fun e w' => ∃ v0_ : Value, e = .returned (v0_) ∧ Kd.R (Kd.int .u8) 5 w' w.heap.size (fun _ => True) v0_ r ∧ Below w.heap.size w w' := by
 have HR0 := zaa.mk hr0
 have HC0 := zaa.mk hc0
 clear hr0 hc0
 have HB := zaa.mk (Below.refl w.heap.size w)
 have H : (zaF.l0 k l0 ([] : List Int) 0) = some r := h
 clear h
 have H' := zaa.mk H
 clear H
 go_enter Tryz.func43, Tryz.ntmps43
 go_wp2
 go_loopg [3, 4] k (fun kq v3 v4 w' => ∃ (x3_1 : List Int) (x4_1 : Int), v4 = .int .i64 x4_1 ∧ zaa (zaF.l0 kq l0 x3_1 x4_1 = some r) ∧ zaa (kq ≤ k) ∧ zaa (Kd.R (Kd.int .u8) 5 w' w.heap.size (fun _ => True) v3 x3_1) ∧ zaa (Below w.heap.size w w'))
 case atStart => exact ⟨(([] : List Int)), (0), (by first | rfl | (simp; done) | (simp [*]; done)), H', ⟨Nat.le_refl _⟩, ⟨by first | exact Kd.R_nil _ _ _ _ _ | exact Kd.N_nil _ _ _ _ _ | exact Kd.V_nil _ _ _ _ _ | exact Kd.Q_nil _ _ _ _ _ | exact Kd.S_nil _ _ _ _ _⟩, ⟨by repeat (first | (with_reducible first | exact HB.out | apply zad | apply zab | apply zae) | exact HB.out)⟩⟩
 case round =>
  clear H'
  obtain ⟨x3_1, x4_1, rfl, HA, HK1, HO_3, HB⟩ := hrel
  cases gk with
  | zero => exact absurd HA.out (by simp [zaF.l0])
  | succ k1 =>
   have H := HA.out
   clear HA
   simp only [zaF.l0] at H
   by_cases c2 : x4_1 < (l0.length : Int)
   ·rw [if_pos c2] at H
    have c2b0 : decide (x4_1 < (l0.length : Int)) = true := decide_eq_true c2
    clear c2
    by_cases c3 : 0 ≤ x4_1
    ·rw [if_pos c3] at H
     have c3b0 : decide (0 ≤ x4_1) = true := decide_eq_true c3
     clear c3
     by_cases c4 : x3_1.length < 140737488355328
     ·rw [if_pos c4] at H
      have LMc4 := zaa.mk c4
      clear c4
      obtain ⟨y112, hy112⟩ : ∃ y_ : List Int, y_ = (x3_1 ++ [rd l0 x4_1]) := ⟨_, rfl⟩
      replace H : (zaF.l0 k1 l0 y112 (wrap64 (x4_1 + 1))) = some r := by first | (rw [hy112]; with_reducible exact H) | (have H2_ := (Option.bind_some _ _).symm.trans H; rw [hy112]; with_reducible exact H2_) | (have H2_ := (Option.bind_some _ _).symm.trans H; with_reducible exact H2_) | with_reducible exact H | (rw [hy112]; exact H) | exact H
      have Ny112 := zaa.mk hy112
      clear hy112
      have H' := zaa.mk H
      clear H
      have p111 : 0 ≤ (x4_1 : Int) := of_decide_eq_true (by first | (with_reducible assumption) | assumption)
      have q111 : x4_1 < (l0.length : Int) := of_decide_eq_true (by first | (with_reducible assumption) | assumption)
      obtain ⟨ad111, e111, hx111_0⟩ := Kd.at_int HR0.out x4_1 p111 q111
      cases e111
      replace hx111_0 := (HB.out.cell (World.block_lt_of_cell? w _ hx111_0)).trans hx111_0
      replace p111 := eq_true p111
      replace q111 := eq_true q111
      go_wp2_with (first | ((with_reducible refine zce (b := .append) (xs := #[.tmp 11, .tmp 16]) rfl ?_); at_builtin; refine Kd.R_append (Kd.int .u8) (w0 := w) w.heap.size rfl (.tmp 11) (.tmp 16) 37 5 (.int .u8 0) 1 rfl Tryz.underlying37 info5 rfl (by decide) (by omega) u3 x3_1 (rd l0 x4_1) [.int .u8 (rd l0 x4_1)] (fun _ => True) (fun _ => False) rfl rfl ?aP (fun _ hk => hk.elim) ?aF ?aO ?aB ?aS ?aL ?_; (case aP => exact rfl); (case aB => exact (by repeat (first | (with_reducible first | exact HB.out | apply zad | apply zab | apply zae) | exact HB.out))); (case aF => exact (fun _ _ => trivial)); (case aO => exact (by (with_reducible repeat (first | apply Kd.zbA | apply Kd.zbH | apply Kd.zca)); exact HO_3.out)); (case aS => exact (zar (by repeat (first | (with_reducible first | exact HB.out | apply zad | apply zab | apply zae) | exact HB.out)))); (case aL => have := LMc4.out; omega); intro v113 w5 ho hb hg hat; rw [← Ny112.out] at ho; have n0_ := zaa.mk (hb); have n1_ := zaa.mk (ho); clear HB; clear HO_3; have HB := n0_; have HO114 := n1_; clear n0_ n1_; clear ho hb hg hat))
      go_roundg k1
      case measure => have := HK1.out; omega
      case rel => exact ⟨(y112), (wrap64 (x4_1 + 1)), (by first | rfl | (simp; done) | (simp [*]; done)), H', ⟨by have := HK1.out; omega⟩, ⟨by (with_reducible repeat (first | apply Kd.zbA | apply Kd.zbH | apply Kd.zca)); exact HO114.out⟩, ⟨by repeat (first | (with_reducible first | exact HB.out | apply zad | apply zab | apply zae) | exact HB.out)⟩⟩
     ·rw [if_neg c4] at H
      exact absurd H (by simp)
    ·rw [if_neg c3] at H
     exact absurd H (by simp)
   ·rw [if_neg c2] at H
    have c2b0 : decide (x4_1 < (l0.length : Int)) = false := decide_eq_false c2
    clear c2
    obtain rfl := Option.some.inj H
    go_wp2
    go_ret
    exact ⟨_, by first | rfl | (simp [zaw, zav] <;> rfl) | (simp [*, zaw, zav] <;> rfl), by (with_reducible repeat (first | apply Kd.zbA | apply Kd.zbH | apply Kd.zca)); exact HO_3.out, by repeat (first | (with_reducible first | exact HB.out | apply zad | apply zab | apply zae) | exact HB.out)⟩
def zaC.l0 : Nat → List (S50) → List (S50) → Int → Option ((List (S50)))
 | 0, _, _, _ => none
 | k + 1, x0, x3, x4 => if x4 < (x0.length : Int) then (if 0 ≤ x4 then (if x3.length < 5864062014805 then (zaC.l0 k x0 (x3 ++ [(⟨(zau x0 x4).f0, (zau x0 x4).f1⟩ : S50)]) (wrap64 (x4 + 1))) else (none)) else (none)) else (some x3)
def zaC.f (k : Nat) (l0 : List (S50)) : Option ((List (S50))) := zaC.l0 k l0 ([] : List (S50)) 0
set_option maxHeartbeats 8000000 in
set_option maxRecDepth 100000 in
theorem zaC.calls (k : Nat) (A0 : Option Addr) (c0 : Nat) (l0 : List (S50)) (r : List (S50)) (w : World) (hr0 : Kd.C k50 w A0 l0.length l0) (hc0 : l0.length ≤ c0) (h : zaC.f k l0 = some r) :
  Calls Tryz.prog 90 #[.slice A0 l0.length c0] w fun e w' => ∃ v0_ : Value, e = .returned (v0_) ∧ Kd.R k50 50 w' w.heap.size (fun _ => True) v0_ r ∧ Below w.heap.size w w' := by
 have hu50 := Tryz.underlying50
 have HR0 := zaa.mk hr0
 have HC0 := zaa.mk hc0
 clear hr0 hc0
 have HB := zaa.mk (Below.refl w.heap.size w)
 have H : (zaC.l0 k l0 ([] : List (S50)) 0) = some r := h
 clear h
 have H' := zaa.mk H
 clear H
 go_enter Tryz.func90, Tryz.ntmps90
 go_wp2
 go_loopg [3, 4] k (fun kq v3 v4 w' => ∃ (x3_1 : List (S50)) (x4_1 : Int), v4 = .int .i64 x4_1 ∧ zaa (zaC.l0 kq l0 x3_1 x4_1 = some r) ∧ zaa (kq ≤ k) ∧ zaa (Kd.R k50 50 w' w.heap.size (fun _ => True) v3 x3_1) ∧ zaa (Below w.heap.size w w'))
 case atStart => exact ⟨(([] : List (S50))), (0), (by first | rfl | (simp; done) | (simp [*]; done)), H', ⟨Nat.le_refl _⟩, ⟨by first | exact Kd.R_nil _ _ _ _ _ | exact Kd.N_nil _ _ _ _ _ | exact Kd.V_nil _ _ _ _ _ | exact Kd.Q_nil _ _ _ _ _ | exact Kd.S_nil _ _ _ _ _⟩, ⟨by repeat (first | (with_reducible first | exact HB.out | apply zad | apply zab | apply zae) | exact HB.out)⟩⟩
 case round =>
  clear H'
  obtain ⟨x3_1, x4_1, rfl, HA, HK1, HO_3, HB⟩ := hrel
  cases gk with
  | zero => exact absurd HA.out (by simp [zaC.l0])
  | succ k1 =>
   have H := HA.out
   clear HA
   simp only [zaC.l0] at H
   by_cases c2 : x4_1 < (l0.length : Int)
   ·rw [if_pos c2] at H
    have c2b0 : decide (x4_1 < (l0.length : Int)) = true := decide_eq_true c2
    clear c2
    by_cases c3 : 0 ≤ x4_1
    ·rw [if_pos c3] at H
     have c3b0 : decide (0 ≤ x4_1) = true := decide_eq_true c3
     clear c3
     by_cases c4 : x3_1.length < 5864062014805
     ·rw [if_pos c4] at H
      have LMc4 := zaa.mk c4
      clear c4
      obtain ⟨y116, hy116⟩ : ∃ y_ : List (S50), y_ = (x3_1 ++ [(⟨(zau l0 x4_1).f0, (zau l0 x4_1).f1⟩ : S50)]) := ⟨_, rfl⟩
      replace H : (zaC.l0 k1 l0 y116 (wrap64 (x4_1 + 1))) = some r := by first | (rw [hy116]; with_reducible exact H) | (have H2_ := (Option.bind_some _ _).symm.trans H; rw [hy116]; with_reducible exact H2_) | (have H2_ := (Option.bind_some _ _).symm.trans H; with_reducible exact H2_) | with_reducible exact H | (rw [hy116]; exact H) | exact H
      have Ny116 := zaa.mk hy116
      clear hy116
      have H' := zaa.mk H
      clear H
      have p115 : 0 ≤ (x4_1 : Int) := of_decide_eq_true (by first | (with_reducible assumption) | assumption)
      have q115 : x4_1 < (l0.length : Int) := of_decide_eq_true (by first | (with_reducible assumption) | assumption)
      obtain ⟨ad115, e115, hx115_0, hx115_1⟩ := zb4 HR0.out x4_1 p115 q115
      cases e115
      replace hx115_0 := (HB.out.cell (World.block_lt_of_cell? w _ hx115_0)).trans hx115_0
      replace hx115_1 := (HB.out.cell (World.block_lt_of_cell? w _ hx115_1)).trans hx115_1
      replace p115 := eq_true p115
      replace q115 := eq_true q115
      go_wp2_with (first | ((with_reducible refine zce (b := .append) (xs := #[.tmp 11, .tmp 16]) rfl ?_); at_builtin; refine Kd.R_append k50 (w0 := w) w.heap.size rfl (.tmp 11) (.tmp 16) 38 50 (.agg #[(.string ⟨#[]⟩), (.int .i64 0)]) 24 rfl Tryz.underlying38 info50 rfl (by decide) (by omega) u3 x3_1 (⟨(zau l0 x4_1).f0, (zau l0 x4_1).f1⟩ : S50) [.string ((zau l0 x4_1).f0), .int .i64 ((zau l0 x4_1).f1)] (fun _ => True) (fun _ => False) rfl rfl ?aP (fun _ hk => hk.elim) ?aF ?aO ?aB ?aS ?aL ?_; (case aP => exact k50_mkM _ _ _ (⟨(zau l0 x4_1).f0, (zau l0 x4_1).f1⟩ : S50)); (case aB => exact (by repeat (first | (with_reducible first | exact HB.out | apply zad | apply zab | apply zae) | exact HB.out))); (case aF => exact (fun _ _ => trivial)); (case aO => exact (by (with_reducible repeat (first | apply Kd.zbA | apply Kd.zbH | apply Kd.zca)); exact HO_3.out)); (case aS => exact (zar (by repeat (first | (with_reducible first | exact HB.out | apply zad | apply zab | apply zae) | exact HB.out)))); (case aL => have := LMc4.out; omega); intro v117 w5 ho hb hg hat; rw [← Ny116.out] at ho; have n0_ := zaa.mk (hb); have n1_ := zaa.mk (ho); clear HB; clear HO_3; have HB := n0_; have HO118 := n1_; clear n0_ n1_; clear ho hb hg hat))
      go_roundg k1
      case measure => have := HK1.out; omega
      case rel => exact ⟨(y116), (wrap64 (x4_1 + 1)), (by first | rfl | (simp; done) | (simp [*]; done)), H', ⟨by have := HK1.out; omega⟩, ⟨by (with_reducible repeat (first | apply Kd.zbA | apply Kd.zbH | apply Kd.zca)); exact HO118.out⟩, ⟨by repeat (first | (with_reducible first | exact HB.out | apply zad | apply zab | apply zae) | exact HB.out)⟩⟩
     ·rw [if_neg c4] at H
      exact absurd H (by simp)
    ·rw [if_neg c3] at H
     exact absurd H (by simp)
   ·rw [if_neg c2] at H
    have c2b0 : decide (x4_1 < (l0.length : Int)) = false := decide_eq_false c2
    clear c2
    obtain rfl := Option.some.inj H
    go_wp2
    go_ret
    exact ⟨_, by first | rfl | (simp [zaw, zav] <;> rfl) | (simp [*, zaw, zav] <;> rfl), by (with_reducible repeat (first | apply Kd.zbA | apply Kd.zbH | apply Kd.zca)); exact HO_3.out, by repeat (first | (with_reducible first | exact HB.out | apply zad | apply zab | apply zae) | exact HB.out)⟩
def zbB.f (k : Nat) (a0_0 : Int) (l0_1 : List Int) (l0_2 : List (S50)) (a0_3 : ByteArray) (a0_4 : Int) (a0_5 : Int) : Option (Int × List Int × (List (S50)) × ByteArray × Int × Int) := (zaF.f k l0_1).bind fun t122 => ((zaC.f k l0_2).bind fun t125 => (some (a0_0, t122, t125, a0_3, a0_4, a0_5)))
set_option maxHeartbeats 8000000 in
set_option maxRecDepth 100000 in
theorem zbB.calls (k : Nat) (a0_0 : Int) (A0_1 : Option Addr) (c0_1 : Nat) (l0_1 : List Int) (A0_2 : Option Addr) (c0_2 : Nat) (l0_2 : List (S50)) (a0_3 : ByteArray) (a0_4 : Int) (a0_5 : Int) (r1 : Int) (r2 : List Int) (r3 : List (S50)) (r4 : ByteArray) (r5 : Int) (r6 : Int) (w : World) (hr0_1 : Kd.C (Kd.int .u8) w A0_1 l0_1.length l0_1) (hc0_1 : l0_1.length ≤ c0_1) (hr0_2 : Kd.C k50 w A0_2 l0_2.length l0_2) (hc0_2 : l0_2.length ≤ c0_2) (h : zbB.f k a0_0 l0_1 l0_2 a0_3 a0_4 a0_5 = some (r1, r2, r3, r4, r5, r6)) :
  Calls Tryz.prog 57 #[.agg #[.int .i64 a0_0, .slice A0_1 l0_1.length c0_1, .slice A0_2 l0_2.length c0_2, .string a0_3, .int .i64 a0_4, .int .i64 a0_5]] w fun e w' => ∃ v1_ v2_ : Value, e = .returned (.agg #[.int .i64 r1, v1_, v2_, .string r4, .int .i64 r5, .int .i64 r6]) ∧ Kd.R (Kd.int .u8) 5 w' w.heap.size (fun _ => True) v1_ r2 ∧ Kd.R k50 50 w' w.heap.size (fun _ => True) v2_ r3 ∧ Below w.heap.size w w' := by
 have hu40 := Tryz.underlying40
 have HR0_1 := zaa.mk hr0_1
 have HC0_1 := zaa.mk hc0_1
 clear hr0_1 hc0_1
 have HR0_2 := zaa.mk hr0_2
 have HC0_2 := zaa.mk hc0_2
 clear hr0_2 hc0_2
 have HB := zaa.mk (Below.refl w.heap.size w)
 have H : ((zaF.f k l0_1).bind fun t122 => ((zaC.f k l0_2).bind fun t125 => (some (a0_0, t122, t125, a0_3, a0_4, a0_5)))) = some (r1, r2, r3, r4, r5, r6) := h
 clear h
 replace H := Option.bind_eq_some_iff.mp H
 obtain ⟨t122, A20, H⟩ := H
 replace H : ((zaC.f k l0_2).bind fun t125 => (some (a0_0, t122, t125, a0_3, a0_4, a0_5))) = some (r1, r2, r3, r4, r5, r6) := H
 have A2 := zaa.mk A20
 clear A20
 replace H := Option.bind_eq_some_iff.mp H
 obtain ⟨t125, A30, H⟩ := H
 replace H : (some (a0_0, t122, t125, a0_3, a0_4, a0_5)) = some (r1, r2, r3, r4, r5, r6) := H
 have A3 := zaa.mk A30
 clear A30
 simp only [Option.some.injEq, Prod.mk.injEq] at H
 obtain ⟨rfl, rfl, rfl, rfl, rfl, rfl⟩ := H
 go_enter Tryz.func57, Tryz.ntmps57
 go_wp2_with (first | ((with_reducible refine zaS (N := 1) rfl ?_); refine zaG ?hg (N := 1) ?hd (cs := #[.int .i64 a0_0, .slice A0_1 l0_1.length c0_1, .slice A0_2 l0_2.length c0_2, .string a0_3, .int .i64 a0_4, .int .i64 a0_5]) (t := 40) ?hr ?_; (case hd => rfl); (case hg => rfl); (case hr => first | (go_simp; done) | (go_simp; rfl)); intro gb119 hg w4 hbox hb; have n0_ := zaa.mk (zam (by repeat (first | (with_reducible first | exact HB.out | apply zad | apply zab | apply zae) | exact HB.out)) hb); have n1_ := zaa.mk (hbox); have n2_ := zaa.mk ((by rw [hg]; exact (zar (by repeat (first | (with_reducible first | exact HB.out | apply zad | apply zab | apply zae) | exact HB.out))) : w.heap.size ≤ gb119)); have n3_ := zaa.mk ((by rw [hg]; exact (zar (by repeat (first | (with_reducible first | exact HB.out | apply zad | apply zab | apply zae) | exact HB.out))) : w.heap.size ≤ gb119)); clear HB; have HB := n0_; have BK119 := n1_; have GW119 := n2_; have GE119 := n3_; clear n0_ n1_ n2_ n3_; clear hb hbox hg) | ((with_reducible refine zaS (N := 2) rfl ?_); refine zaG ?hg (N := 2) ?hd (cs := #[.int .i64 0, .slice none 0 0, .slice none 0 0, .string (⟨#[]⟩ : ByteArray), .int .i64 0, .int .i64 0]) (t := 40) ?hr ?_; (case hd => rfl); (case hg => rfl); (case hr => first | (go_simp; done) | (go_simp; rfl)); intro gb120 hg w5 hbox hb; have n0_ := zaa.mk (zan (g := gb119) (o := .cells #[.int .i64 a0_0, .slice A0_1 l0_1.length c0_1, .slice A0_2 l0_2.length c0_2, .string a0_3, .int .i64 a0_4, .int .i64 a0_5] 40 (0, 0)) (by (with_reducible repeat (first | refine zaj ?_ _ | refine zak ?_ | refine zai ?_ _)); exact BK119.out) hb); have n1_ := zaa.mk (zam (by repeat (first | (with_reducible first | exact HB.out | apply zad | apply zab | apply zae | refine zal ?_ GE119.out) | exact HB.out)) hb); have n2_ := zaa.mk (hbox); have n3_ := zaa.mk ((by rw [hg]; exact (zar (by repeat (first | (with_reducible first | exact HB.out | apply zad | apply zab | apply zae | refine zal ?_ GE119.out) | exact HB.out))) : w.heap.size ≤ gb120)); have n4_ := zaa.mk ((by rw [hg]; exact (zar (by repeat (first | (with_reducible first | exact HB.out | apply zad | apply zab | apply zae | refine zal ?_ GE119.out) | exact HB.out))) : w.heap.size ≤ gb120)); have n5_ := zaa.mk ((by rw [hg]; exact Nat.ne_of_lt (zaO (g := gb119) (o := .cells #[.int .i64 a0_0, .slice A0_1 l0_1.length c0_1, .slice A0_2 l0_2.length c0_2, .string a0_3, .int .i64 a0_4, .int .i64 a0_5] 40 (0, 0)) (by (with_reducible repeat (first | refine zaj ?_ _ | refine zak ?_ | refine zai ?_ _)); exact BK119.out)) : gb119 ≠ gb120)); have n6_ := zaa.mk ((by rw [hg]; exact Nat.ne_of_gt (zaO (g := gb119) (o := .cells #[.int .i64 a0_0, .slice A0_1 l0_1.length c0_1, .slice A0_2 l0_2.length c0_2, .string a0_3, .int .i64 a0_4, .int .i64 a0_5] 40 (0, 0)) (by (with_reducible repeat (first | refine zaj ?_ _ | refine zak ?_ | refine zai ?_ _)); exact BK119.out)) : gb120 ≠ gb119)); clear BK119; clear HB; have BK119 := n0_; have HB := n1_; have BK120 := n2_; have GW120 := n3_; have GE120 := n4_; have NB119_120 := n5_; have NB120_119 := n6_; clear n0_ n1_ n2_ n3_ n4_ n5_ n6_; clear hb hbox hg; have hnb6 := NB119_120.out; have hnc6 := NB120_119.out; have hcz7_0 : w5.cell? ⟨gb119, 0, none⟩ = some (.int .i64 a0_0) := (zac BK119.out 0).trans rfl; have hcz7_1 : w5.cell? ⟨gb119, 1, none⟩ = some (.slice A0_1 l0_1.length c0_1) := (zac BK119.out 1).trans rfl; have hcz7_2 : w5.cell? ⟨gb119, 2, none⟩ = some (.slice A0_2 l0_2.length c0_2) := (zac BK119.out 2).trans rfl; have hcz7_3 : w5.cell? ⟨gb119, 3, none⟩ = some (.string a0_3) := (zac BK119.out 3).trans rfl; have hcz7_4 : w5.cell? ⟨gb119, 4, none⟩ = some (.int .i64 a0_4) := (zac BK119.out 4).trans rfl; have hcz7_5 : w5.cell? ⟨gb119, 5, none⟩ = some (.int .i64 a0_5) := (zac BK119.out 5).trans rfl; have hfz7_0 := zaf BK119.out 0; have hfz7_1 := zaf BK119.out 1; have hfz7_2 := zaf BK119.out 2; have hfz7_3 := zaf BK119.out 3; have hfz7_4 := zaf BK119.out 4; have hfz7_5 := zaf BK119.out 5) | ((with_reducible refine zaS (N := 3) rfl ?_); refine zaG ?hg (N := 3) ?hd (cs := #[.int .i64 0, .slice none 0 0, .slice none 0 0, .string (⟨#[]⟩ : ByteArray), .int .i64 0, .int .i64 0]) (t := 40) ?hr ?_; (case hd => rfl); (case hg => rfl); (case hr => first | (go_simp; done) | (go_simp; rfl)); intro gb121 hg w8 hbox hb; have n0_ := zaa.mk (zan (g := gb119) (o := .cells #[.int .i64 a0_0, .slice A0_1 l0_1.length c0_1, .slice A0_2 l0_2.length c0_2, .string a0_3, .int .i64 a0_4, .int .i64 a0_5] 40 (0, 0)) (by (with_reducible repeat (first | refine zaj ?_ _ | refine zak ?_ | refine zai ?_ _)); exact BK119.out) hb); have n1_ := zaa.mk (zan (g := gb120) (o := .cells #[.int .i64 0, .slice none 0 0, .slice none 0 0, .string (⟨#[]⟩ : ByteArray), .int .i64 0, .int .i64 0] 40 (0, 0)) (by (with_reducible repeat (first | refine zaj ?_ _ | refine zak ?_ | refine zai ?_ _)); exact BK120.out) hb); have n2_ := zaa.mk (zam (by repeat (first | (with_reducible first | exact HB.out | apply zad | apply zab | apply zae | refine zal ?_ GE119.out | refine zal ?_ GE120.out) | exact HB.out)) hb); have n3_ := zaa.mk (hbox); have n4_ := zaa.mk ((by rw [hg]; exact (zar (by repeat (first | (with_reducible first | exact HB.out | apply zad | apply zab | apply zae | refine zal ?_ GE119.out | refine zal ?_ GE120.out) | exact HB.out))) : w.heap.size ≤ gb121)); have n5_ := zaa.mk ((by rw [hg]; exact (zar (by repeat (first | (with_reducible first | exact HB.out | apply zad | apply zab | apply zae | refine zal ?_ GE119.out | refine zal ?_ GE120.out) | exact HB.out))) : w.heap.size ≤ gb121)); have n6_ := zaa.mk ((by rw [hg]; exact Nat.ne_of_lt (zaO (g := gb119) (o := .cells #[.int .i64 a0_0, .slice A0_1 l0_1.length c0_1, .slice A0_2 l0_2.length c0_2, .string a0_3, .int .i64 a0_4, .int .i64 a0_5] 40 (0, 0)) (by (with_reducible repeat (first | refine zaj ?_ _ | refine zak ?_ | refine zai ?_ _)); exact BK119.out)) : gb119 ≠ gb121)); have n7_ := zaa.mk ((by rw [hg]; exact Nat.ne_of_gt (zaO (g := gb119) (o := .cells #[.int .i64 a0_0, .slice A0_1 l0_1.length c0_1, .slice A0_2 l0_2.length c0_2, .string a0_3, .int .i64 a0_4, .int .i64 a0_5] 40 (0, 0)) (by (with_reducible repeat (first | refine zaj ?_ _ | refine zak ?_ | refine zai ?_ _)); exact BK119.out)) : gb121 ≠ gb119)); have n8_ := zaa.mk ((by rw [hg]; exact Nat.ne_of_lt (zaO (g := gb120) (o := .cells #[.int .i64 0, .slice none 0 0, .slice none 0 0, .string (⟨#[]⟩ : ByteArray), .int .i64 0, .int .i64 0] 40 (0, 0)) (by (with_reducible repeat (first | refine zaj ?_ _ | refine zak ?_ | refine zai ?_ _)); exact BK120.out)) : gb120 ≠ gb121)); have n9_ := zaa.mk ((by rw [hg]; exact Nat.ne_of_gt (zaO (g := gb120) (o := .cells #[.int .i64 0, .slice none 0 0, .slice none 0 0, .string (⟨#[]⟩ : ByteArray), .int .i64 0, .int .i64 0] 40 (0, 0)) (by (with_reducible repeat (first | refine zaj ?_ _ | refine zak ?_ | refine zai ?_ _)); exact BK120.out)) : gb121 ≠ gb120)); clear BK119; clear BK120; clear HB; have BK119 := n0_; have BK120 := n1_; have HB := n2_; have BK121 := n3_; have GW121 := n4_; have GE121 := n5_; have NB119_121 := n6_; have NB121_119 := n7_; have NB120_121 := n8_; have NB121_120 := n9_; clear n0_ n1_ n2_ n3_ n4_ n5_ n6_ n7_ n8_ n9_; clear hb hbox hg; have hnb9 := NB121_119.out; have hnc9 := NB119_121.out; have hnb10 := NB121_120.out; have hnc10 := NB120_121.out; have hcz11_0 : w8.cell? ⟨gb121, 0, none⟩ = some (.int .i64 0) := (zac BK121.out 0).trans rfl; have hcz11_1 : w8.cell? ⟨gb121, 1, none⟩ = some (.slice none 0 0) := (zac BK121.out 1).trans rfl; have hcz11_2 : w8.cell? ⟨gb121, 2, none⟩ = some (.slice none 0 0) := (zac BK121.out 2).trans rfl; have hcz11_3 : w8.cell? ⟨gb121, 3, none⟩ = some (.string (⟨#[]⟩ : ByteArray)) := (zac BK121.out 3).trans rfl; have hcz11_4 : w8.cell? ⟨gb121, 4, none⟩ = some (.int .i64 0) := (zac BK121.out 4).trans rfl; have hcz11_5 : w8.cell? ⟨gb121, 5, none⟩ = some (.int .i64 0) := (zac BK121.out 5).trans rfl; have hfz11_0 := zaf BK121.out 0; have hfz11_1 := zaf BK121.out 1; have hfz11_2 := zaf BK121.out 2; have hfz11_3 := zaf BK121.out 3; have hfz11_4 := zaf BK121.out 4; have hfz11_5 := zaf BK121.out 5; have hcz12_0 : w8.cell? ⟨gb119, 0, none⟩ = some (.int .i64 a0_0) := (zac BK119.out 0).trans rfl; have hcz12_1 : w8.cell? ⟨gb119, 1, none⟩ = some (.slice A0_1 l0_1.length c0_1) := (zac BK119.out 1).trans rfl; have hcz12_2 : w8.cell? ⟨gb119, 2, none⟩ = some (.slice A0_2 l0_2.length c0_2) := (zac BK119.out 2).trans rfl; have hcz12_3 : w8.cell? ⟨gb119, 3, none⟩ = some (.string a0_3) := (zac BK119.out 3).trans rfl; have hcz12_4 : w8.cell? ⟨gb119, 4, none⟩ = some (.int .i64 a0_4) := (zac BK119.out 4).trans rfl; have hcz12_5 : w8.cell? ⟨gb119, 5, none⟩ = some (.int .i64 a0_5) := (zac BK119.out 5).trans rfl; have hfz12_0 := zaf BK119.out 0; have hfz12_1 := zaf BK119.out 1; have hfz12_2 := zaf BK119.out 2; have hfz12_3 := zaf BK119.out 3; have hfz12_4 := zaf BK119.out 4; have hfz12_5 := zaf BK119.out 5) | ((with_reducible refine zaY (f := 43) rfl ?_); refine zbI (some 7) rfl rfl Tryz.func43 (by kernel_rfl) rfl #[.slice A0_1 l0_1.length c0_1] rfl (by (try simp only [List.map_toArray, List.map_cons, List.map_nil]); first | done | rfl | (simp only [List.length_drop, List.length_take]; rfl)) ?_; (with_reducible refine (zaF.calls k _ _ l0_1 t122 _ ?side1 ?side2 A2.out).mono ?_); (case side1 => exact Kd.C_below HR0_1.out (by repeat (first | (with_reducible first | exact HB.out | apply zad | apply zab | apply zae | refine zal ?_ GE119.out | refine zal ?_ GE120.out | refine zal ?_ GE121.out) | exact HB.out))); (case side2 => exact HC0_1.out); rintro e w13 ⟨v123, rfl, ho0, hb⟩; refine ⟨_, rfl, ?_⟩; have n0_ := zaa.mk (Kd.zcw ho0 (zar (by repeat (first | (with_reducible first | exact HB.out | apply zad | apply zab | apply zae | refine zal ?_ GE119.out | refine zal ?_ GE120.out | refine zal ?_ GE121.out) | exact HB.out)))); have n1_ := zaa.mk (zan (g := gb119) (o := .cells #[.int .i64 a0_0, .slice A0_1 l0_1.length c0_1, .slice A0_2 l0_2.length c0_2, .string a0_3, .int .i64 a0_4, .int .i64 a0_5] 40 (0, 0)) (by (with_reducible repeat (first | refine zaj ?_ _ | refine zak ?_ | refine zai ?_ _)); refine zaD ?_ NB119_121.out _; (with_reducible repeat (first | refine zaj ?_ _ | refine zak ?_ | refine zai ?_ _)); refine zaD ?_ NB119_121.out _; (with_reducible repeat (first | refine zaj ?_ _ | refine zak ?_ | refine zai ?_ _)); refine zaD ?_ NB119_121.out _; (with_reducible repeat (first | refine zaj ?_ _ | refine zak ?_ | refine zai ?_ _)); refine zaD ?_ NB119_121.out _; (with_reducible repeat (first | refine zaj ?_ _ | refine zak ?_ | refine zai ?_ _)); refine zaD ?_ NB119_121.out _; (with_reducible repeat (first | refine zaj ?_ _ | refine zak ?_ | refine zai ?_ _)); refine zaD ?_ NB119_121.out _; (with_reducible repeat (first | refine zaj ?_ _ | refine zak ?_ | refine zai ?_ _)); exact BK119.out) hb); have n2_ := zaa.mk (zan (g := gb120) (o := .cells #[.int .i64 0, .slice none 0 0, .slice none 0 0, .string (⟨#[]⟩ : ByteArray), .int .i64 0, .int .i64 0] 40 (0, 0)) (by (with_reducible repeat (first | refine zaj ?_ _ | refine zak ?_ | refine zai ?_ _)); refine zaD ?_ NB120_121.out _; (with_reducible repeat (first | refine zaj ?_ _ | refine zak ?_ | refine zai ?_ _)); refine zaD ?_ NB120_121.out _; (with_reducible repeat (first | refine zaj ?_ _ | refine zak ?_ | refine zai ?_ _)); refine zaD ?_ NB120_121.out _; (with_reducible repeat (first | refine zaj ?_ _ | refine zak ?_ | refine zai ?_ _)); refine zaD ?_ NB120_121.out _; (with_reducible repeat (first | refine zaj ?_ _ | refine zak ?_ | refine zai ?_ _)); refine zaD ?_ NB120_121.out _; (with_reducible repeat (first | refine zaj ?_ _ | refine zak ?_ | refine zai ?_ _)); refine zaD ?_ NB120_121.out _; (with_reducible repeat (first | refine zaj ?_ _ | refine zak ?_ | refine zai ?_ _)); exact BK120.out) hb); have n3_ := zaa.mk (zan (g := gb121) (o := .cells #[.int .i64 a0_0, .slice A0_1 l0_1.length c0_1, .slice A0_2 l0_2.length c0_2, .string a0_3, .int .i64 a0_4, .int .i64 a0_5] 40 (0, 0)) (by (with_reducible repeat (first | refine zaj ?_ _ | refine zak ?_ | refine zai ?_ _)); refine zaP (cs := #[.int .i64 a0_0, .slice A0_1 l0_1.length c0_1, .slice A0_2 l0_2.length c0_2, .string a0_3, .int .i64 a0_4, .int .i64 0]) ?_ 5 _ rfl; (with_reducible repeat (first | refine zaj ?_ _ | refine zak ?_ | refine zai ?_ _)); refine zaP (cs := #[.int .i64 a0_0, .slice A0_1 l0_1.length c0_1, .slice A0_2 l0_2.length c0_2, .string a0_3, .int .i64 0, .int .i64 0]) ?_ 4 _ rfl; (with_reducible repeat (first | refine zaj ?_ _ | refine zak ?_ | refine zai ?_ _)); refine zaP (cs := #[.int .i64 a0_0, .slice A0_1 l0_1.length c0_1, .slice A0_2 l0_2.length c0_2, .string (⟨#[]⟩ : ByteArray), .int .i64 0, .int .i64 0]) ?_ 3 _ rfl; (with_reducible repeat (first | refine zaj ?_ _ | refine zak ?_ | refine zai ?_ _)); refine zaP (cs := #[.int .i64 a0_0, .slice A0_1 l0_1.length c0_1, .slice none 0 0, .string (⟨#[]⟩ : ByteArray), .int .i64 0, .int .i64 0]) ?_ 2 _ rfl; (with_reducible repeat (first | refine zaj ?_ _ | refine zak ?_ | refine zai ?_ _)); refine zaP (cs := #[.int .i64 a0_0, .slice none 0 0, .slice none 0 0, .string (⟨#[]⟩ : ByteArray), .int .i64 0, .int .i64 0]) ?_ 1 _ rfl; (with_reducible repeat (first | refine zaj ?_ _ | refine zak ?_ | refine zai ?_ _)); refine zaP (cs := #[.int .i64 0, .slice none 0 0, .slice none 0 0, .string (⟨#[]⟩ : ByteArray), .int .i64 0, .int .i64 0]) ?_ 0 _ rfl; (with_reducible repeat (first | refine zaj ?_ _ | refine zak ?_ | refine zai ?_ _)); exact BK121.out) hb); have n4_ := zaa.mk (zam (by repeat (first | (with_reducible first | exact HB.out | apply zad | apply zab | apply zae | refine zal ?_ GE119.out | refine zal ?_ GE120.out | refine zal ?_ GE121.out) | exact HB.out)) hb); clear BK119; clear BK120; clear BK121; clear HB; have HO124 := n0_; have BK119 := n1_; have BK120 := n2_; have BK121 := n3_; have HB := n4_; clear n0_ n1_ n2_ n3_ n4_; (try clear hb); (try clear hb2); (try clear hk); (try clear hi); (try clear ho0); obtain ⟨Ao14, co14, eo14⟩ := Kd.zbP HO124.out; subst eo14; have hcz15_0 : w13.cell? ⟨gb121, 0, none⟩ = some (.int .i64 a0_0) := (zac BK121.out 0).trans rfl; have hcz15_1 : w13.cell? ⟨gb121, 1, none⟩ = some (.slice A0_1 l0_1.length c0_1) := (zac BK121.out 1).trans rfl; have hcz15_2 : w13.cell? ⟨gb121, 2, none⟩ = some (.slice A0_2 l0_2.length c0_2) := (zac BK121.out 2).trans rfl; have hcz15_3 : w13.cell? ⟨gb121, 3, none⟩ = some (.string a0_3) := (zac BK121.out 3).trans rfl; have hcz15_4 : w13.cell? ⟨gb121, 4, none⟩ = some (.int .i64 a0_4) := (zac BK121.out 4).trans rfl; have hcz15_5 : w13.cell? ⟨gb121, 5, none⟩ = some (.int .i64 a0_5) := (zac BK121.out 5).trans rfl; have hfz15_0 := zaf BK121.out 0; have hfz15_1 := zaf BK121.out 1; have hfz15_2 := zaf BK121.out 2; have hfz15_3 := zaf BK121.out 3; have hfz15_4 := zaf BK121.out 4; have hfz15_5 := zaf BK121.out 5; have hcz16_0 : w13.cell? ⟨gb119, 0, none⟩ = some (.int .i64 a0_0) := (zac BK119.out 0).trans rfl; have hcz16_1 : w13.cell? ⟨gb119, 1, none⟩ = some (.slice A0_1 l0_1.length c0_1) := (zac BK119.out 1).trans rfl; have hcz16_2 : w13.cell? ⟨gb119, 2, none⟩ = some (.slice A0_2 l0_2.length c0_2) := (zac BK119.out 2).trans rfl; have hcz16_3 : w13.cell? ⟨gb119, 3, none⟩ = some (.string a0_3) := (zac BK119.out 3).trans rfl; have hcz16_4 : w13.cell? ⟨gb119, 4, none⟩ = some (.int .i64 a0_4) := (zac BK119.out 4).trans rfl; have hcz16_5 : w13.cell? ⟨gb119, 5, none⟩ = some (.int .i64 a0_5) := (zac BK119.out 5).trans rfl; have hfz16_0 := zaf BK119.out 0; have hfz16_1 := zaf BK119.out 1; have hfz16_2 := zaf BK119.out 2; have hfz16_3 := zaf BK119.out 3; have hfz16_4 := zaf BK119.out 4; have hfz16_5 := zaf BK119.out 5) | ((with_reducible refine zaY (f := 90) rfl ?_); refine zbI (some 11) rfl rfl Tryz.func90 (by kernel_rfl) rfl #[.slice A0_2 l0_2.length c0_2] rfl (by (try simp only [List.map_toArray, List.map_cons, List.map_nil]); first | done | rfl | (simp only [List.length_drop, List.length_take]; rfl)) ?_; (with_reducible refine (zaC.calls k _ _ l0_2 t125 _ ?side1 ?side2 A3.out).mono ?_); (case side1 => exact Kd.C_below HR0_2.out (by repeat (first | (with_reducible first | exact HB.out | apply zad | apply zab | apply zae | refine zal ?_ GE119.out | refine zal ?_ GE120.out | refine zal ?_ GE121.out) | exact HB.out))); (case side2 => exact HC0_2.out); rintro e w17 ⟨v126, rfl, ho0, hb⟩; refine ⟨_, rfl, ?_⟩; have n0_ := zaa.mk (Kd.zcj (by (with_reducible repeat (first | apply Kd.zbA | apply Kd.zbH | apply Kd.zca)); exact (Kd.zbj (Kd.R_far (p := ⟨gb121, 1, none⟩) (Kd.zch HO124.out BK121.out (by decide)) (fun _ hk => hk.2) (.slice Ao14 t122.length co14)) (fun _ h_ => h_.1))) hb); have n1_ := zaa.mk (Kd.zcw ho0 (zar (by repeat (first | (with_reducible first | exact HB.out | apply zad | apply zab | apply zae | refine zal ?_ GE119.out | refine zal ?_ GE120.out | refine zal ?_ GE121.out) | exact HB.out)))); have n2_ := zaa.mk (zan (g := gb119) (o := .cells #[.int .i64 a0_0, .slice A0_1 l0_1.length c0_1, .slice A0_2 l0_2.length c0_2, .string a0_3, .int .i64 a0_4, .int .i64 a0_5] 40 (0, 0)) (by (with_reducible repeat (first | refine zaj ?_ _ | refine zak ?_ | refine zai ?_ _)); refine zaD ?_ NB119_121.out _; (with_reducible repeat (first | refine zaj ?_ _ | refine zak ?_ | refine zai ?_ _)); exact BK119.out) hb); have n3_ := zaa.mk (zan (g := gb120) (o := .cells #[.int .i64 0, .slice none 0 0, .slice none 0 0, .string (⟨#[]⟩ : ByteArray), .int .i64 0, .int .i64 0] 40 (0, 0)) (by (with_reducible repeat (first | refine zaj ?_ _ | refine zak ?_ | refine zai ?_ _)); refine zaD ?_ NB120_121.out _; (with_reducible repeat (first | refine zaj ?_ _ | refine zak ?_ | refine zai ?_ _)); exact BK120.out) hb); have n4_ := zaa.mk (zan (g := gb121) (o := .cells #[.int .i64 a0_0, .slice Ao14 t122.length co14, .slice A0_2 l0_2.length c0_2, .string a0_3, .int .i64 a0_4, .int .i64 a0_5] 40 (0, 0)) (by (with_reducible repeat (first | refine zaj ?_ _ | refine zak ?_ | refine zai ?_ _)); refine zaP (cs := #[.int .i64 a0_0, .slice A0_1 l0_1.length c0_1, .slice A0_2 l0_2.length c0_2, .string a0_3, .int .i64 a0_4, .int .i64 a0_5]) ?_ 1 _ rfl; (with_reducible repeat (first | refine zaj ?_ _ | refine zak ?_ | refine zai ?_ _)); exact BK121.out) hb); have n5_ := zaa.mk (zam (by repeat (first | (with_reducible first | exact HB.out | apply zad | apply zab | apply zae | refine zal ?_ GE119.out | refine zal ?_ GE120.out | refine zal ?_ GE121.out) | exact HB.out)) hb); clear HO124; clear BK119; clear BK120; clear BK121; clear HB; have HO124 := n0_; have HO127 := n1_; have BK119 := n2_; have BK120 := n3_; have BK121 := n4_; have HB := n5_; clear n0_ n1_ n2_ n3_ n4_ n5_; (try clear hb); (try clear hb2); (try clear hk); (try clear hi); (try clear ho0); obtain ⟨Ao18, co18, eo18⟩ := Kd.zbP HO127.out; subst eo18; have hcz19_0 : w17.cell? ⟨gb121, 0, none⟩ = some (.int .i64 a0_0) := (zac BK121.out 0).trans rfl; have hcz19_1 : w17.cell? ⟨gb121, 1, none⟩ = some (.slice Ao14 t122.length co14) := (zac BK121.out 1).trans rfl; have hcz19_2 : w17.cell? ⟨gb121, 2, none⟩ = some (.slice A0_2 l0_2.length c0_2) := (zac BK121.out 2).trans rfl; have hcz19_3 : w17.cell? ⟨gb121, 3, none⟩ = some (.string a0_3) := (zac BK121.out 3).trans rfl; have hcz19_4 : w17.cell? ⟨gb121, 4, none⟩ = some (.int .i64 a0_4) := (zac BK121.out 4).trans rfl; have hcz19_5 : w17.cell? ⟨gb121, 5, none⟩ = some (.int .i64 a0_5) := (zac BK121.out 5).trans rfl; have hfz19_0 := zaf BK121.out 0; have hfz19_1 := zaf BK121.out 1; have hfz19_2 := zaf BK121.out 2; have hfz19_3 := zaf BK121.out 3; have hfz19_4 := zaf BK121.out 4; have hfz19_5 := zaf BK121.out 5; have hcz20_0 : w17.cell? ⟨gb120, 0, none⟩ = some (.int .i64 0) := (zac BK120.out 0).trans rfl; have hcz20_1 : w17.cell? ⟨gb120, 1, none⟩ = some (.slice none 0 0) := (zac BK120.out 1).trans rfl; have hcz20_2 : w17.cell? ⟨gb120, 2, none⟩ = some (.slice none 0 0) := (zac BK120.out 2).trans rfl; have hcz20_3 : w17.cell? ⟨gb120, 3, none⟩ = some (.string (⟨#[]⟩ : ByteArray)) := (zac BK120.out 3).trans rfl; have hcz20_4 : w17.cell? ⟨gb120, 4, none⟩ = some (.int .i64 0) := (zac BK120.out 4).trans rfl; have hcz20_5 : w17.cell? ⟨gb120, 5, none⟩ = some (.int .i64 0) := (zac BK120.out 5).trans rfl; have hfz20_0 := zaf BK120.out 0; have hfz20_1 := zaf BK120.out 1; have hfz20_2 := zaf BK120.out 2; have hfz20_3 := zaf BK120.out 3; have hfz20_4 := zaf BK120.out 4; have hfz20_5 := zaf BK120.out 5))
 refine bodyPost_ret (results_cell_row rfl _ _ gb120 40 #[.int .i64 a0_0, .slice Ao14 t122.length co14, .slice Ao18 t125.length co18, .string a0_3, .int .i64 a0_4, .int .i64 a0_5] (0, 0) _ rfl (by (with_reducible repeat (first | refine zaj ?_ _ | refine zak ?_ | refine zai ?_ _)); refine zaP (cs := #[.int .i64 a0_0, .slice Ao14 t122.length co14, .slice Ao18 t125.length co18, .string a0_3, .int .i64 a0_4, .int .i64 0]) ?_ 5 _ rfl; (with_reducible repeat (first | refine zaj ?_ _ | refine zak ?_ | refine zai ?_ _)); refine zaP (cs := #[.int .i64 a0_0, .slice Ao14 t122.length co14, .slice Ao18 t125.length co18, .string a0_3, .int .i64 0, .int .i64 0]) ?_ 4 _ rfl; (with_reducible repeat (first | refine zaj ?_ _ | refine zak ?_ | refine zai ?_ _)); refine zaP (cs := #[.int .i64 a0_0, .slice Ao14 t122.length co14, .slice Ao18 t125.length co18, .string (⟨#[]⟩ : ByteArray), .int .i64 0, .int .i64 0]) ?_ 3 _ rfl; (with_reducible repeat (first | refine zaj ?_ _ | refine zak ?_ | refine zai ?_ _)); refine zaP (cs := #[.int .i64 a0_0, .slice Ao14 t122.length co14, .slice none 0 0, .string (⟨#[]⟩ : ByteArray), .int .i64 0, .int .i64 0]) ?_ 2 _ rfl; (with_reducible repeat (first | refine zaj ?_ _ | refine zak ?_ | refine zai ?_ _)); refine zaP (cs := #[.int .i64 a0_0, .slice none 0 0, .slice none 0 0, .string (⟨#[]⟩ : ByteArray), .int .i64 0, .int .i64 0]) ?_ 1 _ rfl; (with_reducible repeat (first | refine zaj ?_ _ | refine zak ?_ | refine zai ?_ _)); refine zaP (cs := #[.int .i64 0, .slice none 0 0, .slice none 0 0, .string (⟨#[]⟩ : ByteArray), .int .i64 0, .int .i64 0]) ?_ 0 _ rfl; (with_reducible repeat (first | refine zaj ?_ _ | refine zak ?_ | refine zai ?_ _)); refine zaD ?_ NB120_121.out _; (with_reducible repeat (first | refine zaj ?_ _ | refine zak ?_ | refine zai ?_ _)); exact BK120.out) Tryz.underlying40 rfl (by kernel_rfl)) rfl ?_
 exact ⟨_, _, by first | rfl | (simp [zaw, zav] <;> rfl) | (simp [*, zaw, zav] <;> rfl), by (with_reducible repeat (first | apply Kd.zbA | apply Kd.zbH | apply Kd.zca)); exact Kd.zbj (Kd.R_far (p := ⟨gb120, 5, none⟩) (Kd.R_far (p := ⟨gb120, 4, none⟩) (Kd.R_far (p := ⟨gb120, 3, none⟩) (Kd.R_far (p := ⟨gb120, 2, none⟩) (Kd.R_far (p := ⟨gb120, 1, none⟩) (Kd.R_far (p := ⟨gb120, 0, none⟩) (Kd.R_far (p := ⟨gb121, 2, none⟩) (Kd.zch (Kd.zch HO124.out BK121.out (by decide)) BK120.out (by decide)) (fun _ hk => hk.1.2) (.slice Ao18 t125.length co18)) (fun _ hk => hk.2) (.int .i64 a0_0)) (fun _ hk => hk.2) (.slice Ao14 t122.length co14)) (fun _ hk => hk.2) (.slice Ao18 t125.length co18)) (fun _ hk => hk.2) (.string a0_3)) (fun _ hk => hk.2) (.int .i64 a0_4)) (fun _ hk => hk.2) (.int .i64 a0_5)) (fun _ hk => trivial), by (with_reducible repeat (first | apply Kd.zbA | apply Kd.zbH | apply Kd.zca)); exact Kd.zbj (Kd.R_far (p := ⟨gb120, 5, none⟩) (Kd.R_far (p := ⟨gb120, 4, none⟩) (Kd.R_far (p := ⟨gb120, 3, none⟩) (Kd.R_far (p := ⟨gb120, 2, none⟩) (Kd.R_far (p := ⟨gb120, 1, none⟩) (Kd.R_far (p := ⟨gb120, 0, none⟩) (Kd.R_far (p := ⟨gb121, 2, none⟩) (Kd.zch (Kd.zch HO127.out BK121.out (by decide)) BK120.out (by decide)) (fun _ hk => hk.1.2) (.slice Ao18 t125.length co18)) (fun _ hk => hk.2) (.int .i64 a0_0)) (fun _ hk => hk.2) (.slice Ao14 t122.length co14)) (fun _ hk => hk.2) (.slice Ao18 t125.length co18)) (fun _ hk => hk.2) (.string a0_3)) (fun _ hk => hk.2) (.int .i64 a0_4)) (fun _ hk => hk.2) (.int .i64 a0_5)) (fun _ hk => trivial), by repeat (first | (with_reducible first | exact HB.out | apply zad | apply zab | apply zae | refine zal ?_ GE119.out | refine zal ?_ GE120.out | refine zal ?_ GE121.out) | exact HB.out)⟩
end Go.Proofs.YtjghephnjkffcaaGreat.PAll
