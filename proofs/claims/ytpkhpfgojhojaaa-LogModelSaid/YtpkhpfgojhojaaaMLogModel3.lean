/- Parts of one proof, merged by merge.py of this repo: walks over the given program and plain facts, used by the law of the file YtpkhpfgojhojaaaCLogModel. -/
import Derived.Test.YtpkhpfgojhojaaaProg
import Derived.Below
import Derived.Deep.Draws
import Derived.Deep.AppendLies
import Derived.Maps.AppendAt
import Derived.OwnWalk
import Derived.Laws.BytesArg
import Derived.Laws.MakeOwn
import Derived.Laws.OwnMore
import Derived.Deep.OwnRows
import Derived.Tactics
import Derived.Lib.ConvBytes
import Derived.Laws.Slices
import Derived.WalkKit
import Derived.KernelRfl
import Derived.RowKit3
import Derived.Deep.LoopGhost
import Derived.Deep.QuietTactic
import Derived.BigQuiet
import Derived.WideLaws
import Derived.Deep.DeepCutAuto
import Derived.Deep.CutBlock
import Derived.Deep.RegionHeld3
import Derived.Laws.Rows
import Derived.Lib.AppendStr
import Derived.ArgAppend
import Derived.Laws.IdiomCopy
import Derived.OrdersHeld
import Derived.Laws.BitsLemmas
import Derived.RowKit
import Derived.WalkSpells
import Derived.WalkLawsBesides
import Derived.Test.YtpkhpfgojhojaaaMLogModel2
import Derived.Test.YtpkhpfgojhojaaaMLogModel1
import Derived.SizedLaws
import Derived.ChangeSlices
import Derived.ChangeArms
import Derived.Deep.Slices
import Derived.DataReads
import Derived.Maps.OwnOps
namespace Go.Proofs.Ytpkhpfgojhojaaa.PLg
open Go.RowKit Go.Proofs.YtpkhpfgojhojaaaW.PrintWords Go.Proofs.YtpkhpfgojhojaaaW.PrintLast Go.Proofs.YtpkhpfgojhojaaaW.PrintMore
attribute [local go_sem] max2_int min2_int max_two min_two max_three min_three max_four min_four   -- for this text's walks alone
set_option linter.unusedVariables false
set_option linter.unusedSimpArgs false



def errW : Option Int → Value
  | none => .nilIface
  | some c => .iface 0 (.int .i64 c)
theorem errW_none : errW none = .nilIface := rfl
theorem errW_some (c : Int) : errW (some c) = .iface 0 (.int .i64 c) := rfl

theorem info5 : (Try.prog.info? 5).map (fun i => (i.zero, i.size, i.bytes)) = some (some (.int .u8 0), 1, 1) := by kernel_rfl
theorem info30 : (Try.prog.info? 30).map (fun i => (i.zero, i.size, i.bytes)) = some (some (.slice none 0 0), 1, 24) := by kernel_rfl
-- the values' own types
def rd_L2 (xs : List (List Int)) (i : Int) : (List Int) := xs.getD i.toNat ([] : List Int)
theorem at_L2 {w : World} {A : Option Addr} {n : Nat} {xs : List (List Int)} (h : Kd.C (Kd.slice 5 (Kd.int .u8)) w A n xs) (i : Int) (h0 : 0 ≤ i) (h1 : i < n) : ∃ ad A0 c0, A = some ad ∧ w.cell? (ad.add i.toNat) = some (.slice A0 (rd_L2 xs i).length c0) ∧ (rd_L2 xs i).length ≤ c0 ∧ (Kd.int .u8).C w A0 (rd_L2 xs i).length (rd_L2 xs i) := by
  obtain ⟨ad, c, e, _, hK, hc0⟩ := Kd.C_get h ([] : List Int) i h0 h1
  have hc : ∀ j u, c[j]? = some u → w.cell? (ad.add (i.toNat * 1 + j)) = some u := hc0
  obtain ⟨A0, c0, rfl, l0, g0⟩ := hK
  exact ⟨ad, A0, c0, e, by have hq := hc 0 _ rfl; rwa [Nat.mul_one, Nat.add_zero] at hq, l0, g0⟩

/-! #### struct type 65 -/
structure S65 where
  f0 : Int
  f1 : Int
  f2 : (List Int)
  f3 : (List Int)
def z65 : S65 := ⟨(0 : Int), (0 : Int), ([] : List Int), ([] : List Int)⟩
def k65 : Kd S65 := Kd.iso (Kd.pair (Kd.int .i64) (Kd.pair (Kd.int .i64) (Kd.pair (Kd.slice 5 (Kd.int .u8)) (Kd.slice 3 (Kd.int .i64))))) (fun x : S65 => (x.f0, x.f1, x.f2, x.f3))
theorem k65_open {w : World} {x : S65} {cs : List Value} (h : k65.K w x cs) : ∃ A2 c2 A3 c3, cs = [.int .i64 x.f0, .int .i64 x.f1, .slice A2 x.f2.length c2, .slice A3 x.f3.length c3] ∧ x.f2.length ≤ c2 ∧ (Kd.int .u8).C w A2 x.f2.length x.f2 ∧ x.f3.length ≤ c3 ∧ (Kd.int .i64).C w A3 x.f3.length x.f3 := by
  obtain ⟨_, _, rfl, rfl, ⟨_, _, rfl, rfl, ⟨_, _, rfl, ⟨A2, c2, rfl, l2, g2⟩, ⟨A3, c3, rfl, l3, g3⟩⟩⟩⟩ := h
  exact ⟨A2, c2, A3, c3, rfl, l2, g2, l3, g3⟩
def rd_T65 (xs : List S65) (i : Int) : S65 := xs.getD i.toNat z65
theorem at_T65 {w : World} {A : Option Addr} {n : Nat} {xs : List S65} (h : Kd.C k65 w A n xs) (i : Int) (h0 : 0 ≤ i) (h1 : i < n) : ∃ ad A2 c2 A3 c3, A = some ad ∧ w.cell? (ad.add (i.toNat * 4)) = some (.int .i64 (rd_T65 xs i).f0) ∧ w.cell? ⟨(ad.add (i.toNat * 4)).block, (ad.add (i.toNat * 4)).off + 1, none⟩ = some (.int .i64 (rd_T65 xs i).f1) ∧ w.cell? ⟨(ad.add (i.toNat * 4)).block, (ad.add (i.toNat * 4)).off + 2, none⟩ = some (.slice A2 (rd_T65 xs i).f2.length c2) ∧ w.cell? ⟨(ad.add (i.toNat * 4)).block, (ad.add (i.toNat * 4)).off + 3, none⟩ = some (.slice A3 (rd_T65 xs i).f3.length c3) ∧ (rd_T65 xs i).f2.length ≤ c2 ∧ (Kd.int .u8).C w A2 (rd_T65 xs i).f2.length (rd_T65 xs i).f2 ∧ (rd_T65 xs i).f3.length ≤ c3 ∧ (Kd.int .i64).C w A3 (rd_T65 xs i).f3.length (rd_T65 xs i).f3 := by
  obtain ⟨ad, c, e, _, hK, hc0⟩ := Kd.C_get h z65 i h0 h1
  have hc : ∀ j u, c[j]? = some u → w.cell? (ad.add (i.toNat * 4 + j)) = some u := hc0
  obtain ⟨A2, c2, A3, c3, rfl, l2, g2, l3, g3⟩ := k65_open hK
  exact ⟨ad, A2, c2, A3, c3, e, hc 0 _ rfl, by rw [← add_field _ _ 1 (by omega)]; exact hc 1 _ rfl, by rw [← add_field _ _ 2 (by omega)]; exact hc 2 _ rfl, by rw [← add_field _ _ 3 (by omega)]; exact hc 3 _ rfl, l2, g2, l3, g3⟩

/-! #### struct type 45 -/
structure S45 where
  f0 : Int
def z45 : S45 := ⟨(0 : Int)⟩
def k45 : Kd S45 := Kd.iso (Kd.int .i64) (fun x : S45 => x.f0)
theorem k45_open {w : World} {x : S45} {cs : List Value} (h : k45.K w x cs) : cs = [.int .i64 x.f0] := by
  obtain rfl := h
  exact rfl
def rd_T45 (xs : List S45) (i : Int) : S45 := xs.getD i.toNat z45
theorem at_T45 {w : World} {A : Option Addr} {n : Nat} {xs : List S45} (h : Kd.C k45 w A n xs) (i : Int) (h0 : 0 ≤ i) (h1 : i < n) : ∃ ad , A = some ad ∧ w.cell? (ad.add i.toNat) = some (.int .i64 (rd_T45 xs i).f0) := by
  obtain ⟨ad, c, e, _, hK, hc0⟩ := Kd.C_get h z45 i h0 h1
  have hc : ∀ j u, c[j]? = some u → w.cell? (ad.add (i.toNat * 1 + j)) = some u := hc0
  obtain rfl := k45_open hK
  exact ⟨ad, e, by have hq := hc 0 _ rfl; rwa [Nat.mul_one, Nat.add_zero] at hq⟩

def rd_L6 (xs : List (List (List Int))) (i : Int) : (List (List Int)) := xs.getD i.toNat ([] : List (List Int))
theorem at_L6 {w : World} {A : Option Addr} {n : Nat} {xs : List (List (List Int))} (h : Kd.C (Kd.slice 30 (Kd.slice 5 (Kd.int .u8))) w A n xs) (i : Int) (h0 : 0 ≤ i) (h1 : i < n) : ∃ ad A0 c0, A = some ad ∧ w.cell? (ad.add i.toNat) = some (.slice A0 (rd_L6 xs i).length c0) ∧ (rd_L6 xs i).length ≤ c0 ∧ (Kd.slice 5 (Kd.int .u8)).C w A0 (rd_L6 xs i).length (rd_L6 xs i) := by
  obtain ⟨ad, c, e, _, hK, hc0⟩ := Kd.C_get h ([] : List (List Int)) i h0 h1
  have hc : ∀ j u, c[j]? = some u → w.cell? (ad.add (i.toNat * 1 + j)) = some u := hc0
  obtain ⟨A0, c0, rfl, l0, g0⟩ := hK
  exact ⟨ad, A0, c0, e, by have hq := hc 0 _ rfl; rwa [Nat.mul_one, Nat.add_zero] at hq, l0, g0⟩

end Go.Proofs.Ytpkhpfgojhojaaa.PLg

/- Small laws of this repo: what a row's reading says of an argument, kind by kind (numbers, bools, strings, slices, structs): every reading is of a value of the kind, and is no larger than the row's reach. -/
namespace Go.Proofs.YtpkhpfgojhojaaaW.Opens
open Go.ChangeShapes Go.WideShapes Go.RowKit Go.Proofs.YtpkhpfgojhojaaaW.PrintWords

section
variable {H : Type} (enc : TypeId × Value → H) (P : Program) (w : World)

/-- Every reading of a value of type t is of a value of the kind d, which is as S says. -/
def Opens (t : TypeId) {α : Type} (d : Kd α) (S : α → Prop) : Prop :=
  ∀ (base : Nat) (spare : Nat → Bool) (held : Bool) (fuel : Nat) (cs : List Value) (x : DataW H × List MemPlace),
    DataW.trod enc P w base spare held fuel t cs = some x → (∀ n ∈ x.1.weights P t, n ≤ reachBytes) → ∃ a : α, d.K w a cs ∧ S a

/-- .. of some fields of a struct, from cell o on. -/
def OpensF (fs : List Field) (o : Nat) {α : Type} (d : Kd α) (S : α → Prop) : Prop :=
  ∀ (base : Nat) (spare : Nat → Bool) (held : Bool) (fuel : Nat) (cs : List Value) (xs : List (DataW H × List MemPlace)),
    xs.length = fs.length → (∀ (i : Nat) (f : Field), fs[i]? = some f → DataW.trod enc P w base spare held fuel f.type ((cs.drop f.offset).take (P.cellsOf f.type)) = xs[i]?) →
    (∀ n ∈ DataW.weightsEach P (fs.map (·.type)) (xs.map (·.1)), n ≤ reachBytes) → ∃ a : α, d.K w a ((cs.drop o).take d.sz) ∧ S a
end

section
variable {H : Type} {enc : TypeId × Value → H} {P : Program} {w : World} {t e : TypeId} {α β : Type} {d : Kd α} {S : α → Prop}

theorem opens_int {k : IntKind} (ht : P.underlying t = some (.int k)) : Opens enc P w t (Kd.int k) (fun n => (Lit.int k n).wf = true) := by
  intro base spare held fuel cs x h _
  obtain ⟨n, rfl, _, hw⟩ := DataW.trod_int ht h
  exact ⟨n, rfl, hw⟩

theorem weights_all {ds : List (DataW H)} {y : DataW H} (hy : y ∈ ds) {n : Nat} (hn : n ∈ y.weights P e) : n ∈ DataW.weightsAll P e ds := by
  induction ds with
  | nil => cases hy
  | cons a r ih =>
    simp only [DataW.weightsAll, List.mem_append]
    rcases List.mem_cons.1 hy with rfl | h
    · exact .inl hn
    · exact .inr (ih h)

theorem opens_slice {B : Nat} (ht : P.underlying t = some (.slice e)) (hs : P.cellsOf e = d.sz) (hB : P.bytesOf e = B) (hd : Opens enc P w e d S) :
    Opens enc P w t (Kd.slice e d) (fun l => l.length ≤ maxLen ∧ l.length * B ≤ 140737488351232 ∧ ∀ x ∈ l, S x) := by
  intro base spare held fuel cs x h hz
  rcases Deep.open_slice ht h with ⟨rfl, rfl⟩ | ⟨a, len, cap, m, n, D, Pl, rfl, hb, hl, hm, hmm, rfl, hx⟩
  · refine ⟨[], ⟨none, 0, rfl, Nat.le_refl _, rfl, by simp, fun h => absurd h (Nat.lt_irrefl _)⟩, by simp, by simp, by simp⟩
  · have hlm : len ≤ m := by
      rw [hmm]
      split <;> omega
    have hw : ∀ i, i < len → ∀ n ∈ (D i).weights P e, n ≤ reachBytes := by
      intro i hi n hn
      refine hz n ?_
      simp only [DataW.weights, ht, List.mem_cons, List.mem_append]
      exact .inr (.inl (weights_all (List.mem_map.2 ⟨i, List.mem_range.2 hi, rfl⟩) hn))
    have hel : ∀ i, i < len → ∃ y : α, (∃ cs', w.cells? base (a.add (i * P.cellsOf e)) (P.cellsOf e) = some cs' ∧ d.K w y cs') ∧ S y := by
      intro i hi
      obtain ⟨cs', h1, h2⟩ := hx i (by omega)
      obtain ⟨y, hk, hS⟩ := hd base spare held n cs' _ h2 (hw i hi)
      exact ⟨y, ⟨cs', h1, hk⟩, hS⟩
    have hln : len ≤ 9223372036854775807 := by unfold maxLen at hm; omega
    by_cases h0 : len = 0
    · subst h0
      refine ⟨[], ⟨some a, cap, rfl, by simp, rfl, by simp, fun h => absurd h (Nat.lt_irrefl _)⟩, by simp, by simp, by simp⟩
    · obtain ⟨y0, _⟩ := hel 0 (by omega)
      haveI : Inhabited α := ⟨y0⟩
      obtain ⟨f, hf⟩ := Deep.choose_lt hel
      have hlen : ((List.range len).map f).length = len := by simp
      refine ⟨(List.range len).map f, ⟨some a, cap, by rw [hlen], by rw [hlen]; exact hl, hlen.trans hlen.symm |>.trans hlen |> fun _ => rfl, by rw [hlen]; exact hln, fun _ => ⟨a, rfl, ?_⟩⟩, by rw [hlen]; omega, ?_, ?_⟩
      · intro j p hj
        rw [List.getElem?_map] at hj
        obtain ⟨i, hi, rfl⟩ := Option.map_eq_some_iff.1 hj
        have hjl : j < len := by
          have := (List.getElem?_eq_some_iff.1 hi).1
          simpa using this
        have hij : i = j := by
          rw [List.getElem?_range hjl] at hi
          exact (Option.some.inj hi).symm
        subst hij
        obtain ⟨⟨cs', h1, hk⟩, _⟩ := hf i hjl
        refine ⟨cs', d.K_len hk, hk, ?_⟩
        intro k u hu
        obtain ⟨_, hl', hc'⟩ := World.cells?_some h1
        have hk' : k < cs'.length := (List.getElem?_eq_some_iff.1 hu).1
        have hk2 : k < P.cellsOf e := by rw [← hl']; exact hk'
        have := hc' k hk2
        rw [Deep.add_add, hs] at this
        rw [this, hu]
      · rw [hlen]
        have h1 := hz ((((List.range len).map D).length + ((List.range (m - len)).map fun j => D (len + j)).length) * P.bytesOf e) (by simp only [DataW.weights, ht]; exact List.mem_cons_self)
        rw [hB] at h1
        have h2 : len ≤ ((List.range len).map D).length + ((List.range (m - len)).map fun j => D (len + j)).length := by simp
        exact Nat.le_trans (Nat.mul_le_mul_right _ h2) h1
      · intro x hx
        obtain ⟨i, hi, rfl⟩ := List.mem_map.1 hx
        exact (hf i (List.mem_range.1 hi)).2

theorem opensF_one {f : Field} {o : Nat} (ho : f.offset = o) (hc : P.cellsOf f.type = d.sz) (h : Opens enc P w f.type d S) : OpensF enc P w [f] o d S := by
  intro base spare held fuel cs xs hl hx hz
  match xs, hl with
  | [y], _ =>
    have hy := hx 0 f rfl
    rw [ho, hc] at hy
    exact h base spare held fuel _ y hy (fun n hn => hz n (by simp [DataW.weightsEach, hn]))

theorem opensF_cons {f : Field} {fs : List Field} {o : Nat} {d2 : Kd β} {S2 : β → Prop} (ho : f.offset = o) (hc : P.cellsOf f.type = d.sz) (h : Opens enc P w f.type d S) (h2 : OpensF enc P w fs (o + d.sz) d2 S2) :
    OpensF enc P w (f :: fs) o (Kd.pair d d2) (fun x => S x.1 ∧ S2 x.2) := by
  intro base spare held fuel cs xs hl hx hz
  match xs, hl with
  | y :: ys, hl =>
    have hy := hx 0 f rfl
    rw [ho, hc] at hy
    obtain ⟨a, ha, hS⟩ := h base spare held fuel _ y hy (fun n hn => hz n (by simp only [List.map_cons, DataW.weightsEach, List.mem_append]; exact .inl hn))
    obtain ⟨b, hb, hS2⟩ := h2 base spare held fuel cs ys (by simpa using hl) (fun i g hg => by have := hx (i + 1) g (by simpa using hg); simpa using this) (fun n hn => hz n (by simp only [List.map_cons, DataW.weightsEach, List.mem_append]; exact .inr hn))
    refine ⟨(a, b), ⟨_, _, ?_, ha, hb⟩, hS, hS2⟩
    show (cs.drop o).take (d.sz + d2.sz) = _
    rw [List.take_add, List.drop_drop]

theorem opens_struct {fs : Array Field} (ht : P.underlying t = some (.struct fs)) (hs : P.cellsOf t = d.sz) (h : OpensF enc P w fs.toList 0 d S) : Opens enc P w t d S := by
  intro base spare held fuel cs x hx hz
  obtain ⟨xs, n, _, rfl, hl, hn, hm⟩ := DataW.trod_struct ht hx
  obtain ⟨a, ha, hS⟩ := h base spare held n cs xs (by simpa using hn) (fun i f hf => hm i f (by simpa using hf)) (fun n hn => hz n (by simp only [DataW.weights, ht]; exact hn))
  rw [List.drop_zero, ← hs, ← hl, List.take_length] at ha
  exact ⟨a, ha, hS⟩

theorem opens_iso {f : β → α} (h : Opens enc P w t d S) (g : α → β) (hg : ∀ y, f (g y) = y) : Opens enc P w t (Kd.iso d f) (fun b => S (f b)) := by
  intro base spare held fuel cs x hx hz
  obtain ⟨a, ha, hS⟩ := h base spare held fuel cs x hx hz
  exact ⟨g a, by show d.K w (f (g a)) cs; rw [hg]; exact ha, by show S (f (g a)); rw [hg]; exact hS⟩
end
end Go.Proofs.YtpkhpfgojhojaaaW.Opens

/- What the row's reading says of a law's argument: its kind and its bounds. Written by lawrow2.py of this repo. -/
namespace Go.Proofs.Ytpkhpfgojhojaaa.PLg
open Go.RowKit Go.Proofs.YtpkhpfgojhojaaaW.PrintWords Go.Proofs.YtpkhpfgojhojaaaW.PrintLast Go.Proofs.YtpkhpfgojhojaaaW.Opens
def ok45 (x : S45) : Prop := (Lit.int .i64 x.f0).wf = true
set_option maxRecDepth 20000 in
theorem opens45 {H : Type} {enc : TypeId × Value → H} {w : World} : Opens enc Try.prog w 45 k45 ok45 :=
  opens_iso (opens_struct Try.underlying45 (by kernel_rfl) (opensF_one rfl (by kernel_rfl) (opens_int Try.underlying3))) (fun y => ⟨y⟩) (fun _ => rfl)
def ok22 (l : List (S45)) : Prop := l.length ≤ maxLen ∧ l.length * 8 ≤ 140737488351232 ∧ ∀ x ∈ l, ok45 x
set_option maxRecDepth 20000 in
theorem opens22 {H : Type} {enc : TypeId × Value → H} {w : World} : Opens enc Try.prog w 22 (Kd.slice 45 k45) ok22 :=
  opens_slice Try.underlying22 (by kernel_rfl) (by kernel_rfl) opens45
def ok30 (l : List (Int)) : Prop := l.length ≤ maxLen ∧ l.length * 1 ≤ 140737488351232 ∧ ∀ x ∈ l, (Lit.int .u8 x).wf = true
set_option maxRecDepth 20000 in
theorem opens30 {H : Type} {enc : TypeId × Value → H} {w : World} : Opens enc Try.prog w 30 (Kd.slice 5 (Kd.int .u8)) ok30 :=
  opens_slice Try.underlying30 (by kernel_rfl) (by kernel_rfl) (opens_int Try.underlying5)
def ok33 (l : List (Int)) : Prop := l.length ≤ maxLen ∧ l.length * 8 ≤ 140737488351232 ∧ ∀ x ∈ l, (Lit.int .i64 x).wf = true
set_option maxRecDepth 20000 in
theorem opens33 {H : Type} {enc : TypeId × Value → H} {w : World} : Opens enc Try.prog w 33 (Kd.slice 3 (Kd.int .i64)) ok33 :=
  opens_slice Try.underlying33 (by kernel_rfl) (by kernel_rfl) (opens_int Try.underlying3)
def ok65 (x : S65) : Prop := (Lit.int .i64 x.f0).wf = true ∧ (Lit.int .i64 x.f1).wf = true ∧ ok30 x.f2 ∧ ok33 x.f3
set_option maxRecDepth 20000 in
theorem opens65 {H : Type} {enc : TypeId × Value → H} {w : World} : Opens enc Try.prog w 65 k65 ok65 :=
  opens_iso (opens_struct Try.underlying65 (by kernel_rfl) (opensF_cons rfl (by kernel_rfl) (opens_int Try.underlying3) (opensF_cons rfl (by kernel_rfl) (opens_int Try.underlying3) (opensF_cons rfl (by kernel_rfl) opens30 (opensF_one rfl (by kernel_rfl) opens33))))) (fun y => ⟨y.1, y.2.1, y.2.2.1, y.2.2.2⟩) (fun _ => rfl)
def ok58 (l : List (S65)) : Prop := l.length ≤ maxLen ∧ l.length * 64 ≤ 140737488351232 ∧ ∀ x ∈ l, ok65 x
set_option maxRecDepth 20000 in
theorem opens58 {H : Type} {enc : TypeId × Value → H} {w : World} : Opens enc Try.prog w 58 (Kd.slice 65 k65) ok58 :=
  opens_slice Try.underlying58 (by kernel_rfl) (by kernel_rfl) opens65
def ok60 (x : Int × List (S45) × List (S65)) : Prop := (Lit.int .i64 (x.1)).wf = true ∧ ok22 (x.2.1) ∧ ok58 (x.2.2)
set_option maxRecDepth 20000 in
theorem opens60 {H : Type} {enc : TypeId × Value → H} {w : World} : Opens enc Try.prog w 60 (Kd.pair (Kd.int .i64) (Kd.pair (Kd.slice 45 k45) (Kd.slice 65 k65))) ok60 :=
  opens_struct Try.underlying60 (by kernel_rfl) (opensF_cons rfl (by kernel_rfl) (opens_int Try.underlying3) (opensF_cons rfl (by kernel_rfl) opens22 (opensF_one rfl (by kernel_rfl) opens58)))
end Go.Proofs.Ytpkhpfgojhojaaa.PLg

namespace Go.Proofs.Ytpkhpfgojhojaaa.PLg
open Go.RowKit Go.Proofs.YtpkhpfgojhojaaaW.PrintWords Go.Proofs.YtpkhpfgojhojaaaW.PrintLast Go.Proofs.YtpkhpfgojhojaaaW.PrintMore
attribute [local go_sem] max2_int min2_int max_two min_two max_three min_three max_four min_four
set_option linter.unusedVariables false
set_option linter.unusedSimpArgs false
-- IMPORT: Derived.Test.@N@WOwn
-- IMPORT: Derived.Maps.OwnOps
/-! ### A disk of the program's: what it is in memory, what each call makes of it. -/
structure Dk where
  S : List Int
  E : List Int
  tr : Int → Bool
  n : Int
  off : Bool
def sec (l : List Int) (i : Nat) : List Int := (l.drop (i * 64)).take 64
def Dk.write (x : Dk) (i : Int) (b : List Int) : Dk × Int :=
  if 0 ≤ i ∧ i < (x.E.length : Int) / 64 ∧ b.length = 64 then
    (if x.off = true then ({ x with n := wrap64 (x.n + 1) }, 103)
     else ({ x with n := wrap64 (x.n + 1), off := x.tr (wrap64 (x.n + 1)), E := splice x.E (i.toNat * 64) b }, if x.tr (wrap64 (x.n + 1)) = true then 103 else 0))
  else (x, 100)
def Dk.flush (x : Dk) : Dk × Int :=
  if x.off = true then ({ x with n := wrap64 (x.n + 1) }, 103)
  else if x.tr (wrap64 (x.n + 1)) = true then ({ x with n := wrap64 (x.n + 1), off := true }, 103)
  else ({ x with n := wrap64 (x.n + 1), S := x.E }, 0)
def Dk.read (x : Dk) (i : Int) : List Int × Int :=
  if 0 ≤ i ∧ i < (x.E.length : Int) / 64 then (if x.off = true then ([], 103) else (sec x.E i.toNat, 0)) else ([], 100)
/-- A disk's sizes. -/
def Dk.Fits (x : Dk) : Prop := x.S.length = x.E.length ∧ x.E.length % 64 = 0 ∧ 64 ≤ x.E.length ∧ x.E.length ≤ 1048576
/-- The struct in block d is the disk x; all its blocks are ok, and lie from base on. -/
def DkAt (w : World) (base : Nat) (ok : Nat → Prop) (d : Nat) (x : Dk) : Prop :=
  ∃ (gs cs ge ce bm mm : Nat) (D : DataW Unit),
    w.heap[d]? = some (.cells #[.slice (some ⟨gs, 0, none⟩) x.S.length cs, .slice (some ⟨ge, 0, none⟩) x.E.length ce, .map (some bm), .int .i64 x.n, .bool x.off] 82 (0, 0)) ∧
    (Kd.int .u8).R 5 w base ok (.slice (some ⟨gs, 0, none⟩) x.S.length cs) x.S ∧ (Kd.int .u8).R 5 w base ok (.slice (some ⟨ge, 0, none⟩) x.E.length ce) x.E ∧ gs ≠ ge ∧
    w.ownsMap Try.prog 3 (plainElem Try.prog 4) bm mm D ∧ (∀ i : Int, (Lit.int .i64 i).wf = true → D.atKey (.int .i64 i) (.lit (.bool false)) = .lit (.bool (x.tr i))) ∧ base ≤ d ∧ ok d ∧ base ≤ bm ∧ ok bm ∧ x.Fits
theorem ownsMap_move {w w' : World} {P : Program} {k : TypeId} {R : Value → Option (DataW Unit × List MemPlace)} {b n : Nat} {D : DataW Unit} (h : w.ownsMap P k R b n D) (e : w'.heap[b]? = w.heap[b]?) : w'.ownsMap P k R b n D := by
  obtain ⟨es, clock, hb, r⟩ := h
  exact ⟨es, clock, e.trans hb, r⟩
section
variable {w w' : World} {base d : Nat} {ok ok' S : Nat → Prop} {x : Dk}
theorem DkAt.mono (h : DkAt w base ok d x) (hok : ∀ k, ok k → ok' k) : DkAt w base ok' d x := by
  obtain ⟨gs, cs, ge, ce, bm, mm, D, h1, h2, h3, h4, h5, h6, h7, h8, h9, h10, h11⟩ := h
  exact ⟨gs, cs, ge, ce, bm, mm, D, h1, Kd.R_mono h2 hok, Kd.R_mono h3 hok, h4, h5, h6, h7, hok _ h8, h9, hok _ h10, h11⟩
theorem DkAt.lt (h : DkAt w base ok d x) : d < w.heap.size := by
  obtain ⟨gs, cs, ge, ce, bm, mm, D, h1, _⟩ := h
  exact blk_lt h1
theorem DkAt.bound (h : DkAt w base ok d x) : DkAt w base (fun k => ok k ∧ base ≤ k ∧ k < w.heap.size) d x := by
  obtain ⟨gs, cs, ge, ce, bm, mm, D, h1, h2, h3, h4, h5, h6, h7, h8, h9, h10, h11⟩ := h
  exact ⟨gs, cs, ge, ce, bm, mm, D, h1, Kd.R_mono (Kd.R_bound h2) (fun k hk => ⟨hk.1, hk.2.1, hk.2.2.1⟩), Kd.R_mono (Kd.R_bound h3) (fun k hk => ⟨hk.1, hk.2.1, hk.2.2.1⟩), h4, h5, h6, h7, ⟨h8, h7, blk_lt h1⟩, h9, ⟨h10, h9, h5.lt⟩, h11⟩
theorem DkAt.kept (h : DkAt w base ok d x) (hk : Kept w w' S) (hne : ∀ k, ok k → ¬ S k) : DkAt w' base ok d x := by
  obtain ⟨gs, cs, ge, ce, bm, mm, D, h1, h2, h3, h4, h5, h6, h7, h8, h9, h10, h11⟩ := h
  exact ⟨gs, cs, ge, ce, bm, mm, D, blk_kept h1 hk (hne _ h8), Kd.R_kept h2 hk hne, Kd.R_kept h3 hk hne, h4, ownsMap_move h5 (hk.2 _ h5.lt (hne _ h10)), h6, h7, h8, h9, h10, h11⟩
theorem DkAt.below (h : DkAt w base ok d x) (hb : Below w.heap.size w w') : DkAt w' base ok d x := h.kept (Kept.of_below hb (fun _ => False)) (fun _ _ h => h)
theorem DkAt.lower {base' : Nat} (h : DkAt w base ok d x) (hb : base' ≤ base) : DkAt w base' ok d x := by
  obtain ⟨gs, cs, ge, ce, bm, mm, D, h1, h2, h3, h4, h5, h6, h7, h8, h9, h10, h11⟩ := h
  exact ⟨gs, cs, ge, ce, bm, mm, D, h1, Kd.R_lower h2 hb, Kd.R_lower h3 hb, h4, h5, h6, by omega, h8, by omega, h10, h11⟩
theorem DkAt.fits (h : DkAt w base ok d x) : x.Fits := by
  obtain ⟨gs, cs, ge, ce, bm, mm, D, h1, h2, h3, h4, h5, h6, h7, h8, h9, h10, h11⟩ := h
  exact h11
end
theorem plainElem_bool_inv {P : Program} {e : TypeId} (he : P.underlying e = some .bool) {v : Value} {z : DataW Unit × List MemPlace} (h : plainElem P e v = some z) : ∃ a, v = .bool a ∧ z = (.lit (.bool a), []) := by
  unfold plainElem at h
  rw [he] at h
  cases v <;> simp at h
  exact ⟨_, rfl, h.symm⟩
theorem zero_bool (w : World) : (zeroValue 4).run Try.prog w = .ok (.bool false) w := by kernel_rfl
/-- The troubles, asked. -/
theorem asked_run {w : World} {bm mm : Nat} {D : DataW Unit} (h : w.ownsMap Try.prog 3 (plainElem Try.prog 4) bm mm D) {i : Int} (hi : (Lit.int .i64 i).wf = true) {c : Bool} (hc : D.atKey (.int .i64 i) (.lit (.bool false)) = .lit (.bool c)) :
    (Instr.lookup 80 (.map (some bm)) (.int .i64 i) false).run Try.prog w = .ok (.bool c) w := by
  obtain ⟨v, ps, hrun, hv⟩ := h.lookup (Maps.int_keyed Try.underlying3) Try.underlying80 (zero_bool w) (plainElem_bool Try.underlying4 false) (Maps.keyOf_int_mk Try.underlying3 hi)
  obtain ⟨a, rfl, ha⟩ := plainElem_bool_inv Try.underlying4 hv
  have ha2 : D.atKey (.int .i64 i) (.lit (.bool false)) = .lit (.bool a) := congrArg Prod.fst ha
  have ha3 := hc.symm.trans ha2
  have e : c = a := by cases ha3; rfl
  rw [hrun, e]

end Go.Proofs.Ytpkhpfgojhojaaa.PLg

namespace Go.Proofs.Ytpkhpfgojhojaaa.PLg
open Go.RowKit Go.Proofs.YtpkhpfgojhojaaaW.PrintWords Go.Proofs.YtpkhpfgojhojaaaW.PrintLast Go.Proofs.YtpkhpfgojhojaaaW.PrintMore
attribute [local go_sem] max2_int min2_int max_two min_two max_three min_three max_four min_four
set_option linter.unusedVariables false
set_option linter.unusedSimpArgs false
-- IMPORT: Derived.Test.@N@WOwn
-- IMPORT: Derived.Test.@N@DBase
set_option maxHeartbeats 1000000 in
set_option maxRecDepth 100000 in
theorem dk_at (g n c i : Nat) (w : World) (hi : i * 64 + 64 ≤ n) (hn : n ≤ c) (hm : n ≤ 140737488355328) :
    Calls Try.prog 52 #[.slice (some ⟨g, 0, none⟩) n c, .int .i64 i] w fun e w' => e = .returned (.slice (some ⟨g, i * 64, none⟩) 64 (c - i * 64)) ∧ w = w' := by
  have hsl := Try.underlying30
  go_enter Try.func52, Try.ntmps52
  go_wp2
  go_ret
  refine ⟨?_, rfl⟩
  show Ending.returned (Value.slice _ ((i + 1) * 64 - i * 64) _) = _
  rw [show (i + 1) * 64 - i * 64 = 64 by omega]
set_option maxHeartbeats 1000000 in
set_option maxRecDepth 100000 in
theorem dk_count (d : Nat) (w : World) (base : Nat) (ok : Nat → Prop) (x : Dk) (h : DkAt w base ok d x) :
    Calls Try.prog 30 #[.pointer (some ⟨d, 0, none⟩)] w fun e w' => e = .returned (.int .i64 ((x.E.length : Int) / 64)) ∧ w = w' := by
  obtain ⟨gs, cs, ge, ce, bm, mm, D, h1, h2, h3, h4, h5, h6, h7, h8, h9, h10, h11⟩ := h
  have hct := (blk_cell h1 1).trans rfl
  have HF := h11.2.2.2
  have hmax : x.E.length ≤ 9223372036854775807 := by omega
  clear h1 h2 h3 h4 h5 h6 h7 h8 h9 h10 h11
  have hds := Try.underlying82
  go_enter Try.func30, Try.ntmps30
  go_wp2
  go_ret
  exact ⟨rfl, rfl⟩
end Go.Proofs.Ytpkhpfgojhojaaa.PLg

namespace Go.Proofs.Ytpkhpfgojhojaaa.PLg
open Go.RowKit Go.Proofs.YtpkhpfgojhojaaaW.PrintWords Go.Proofs.YtpkhpfgojhojaaaW.PrintLast Go.Proofs.YtpkhpfgojhojaaaW.PrintMore
attribute [local go_sem] max2_int min2_int max_two min_two max_three min_three max_four min_four   -- for this text's walks alone
set_option linter.unusedVariables false
set_option linter.unusedSimpArgs false

/-! ### slices_Clone_byte_byte_48: function 48 -/
-- FUNCTION: slices.Clone[[]byte,byte]
-- IMPORT: Derived.WalkSpells
def slices_Clone_byte_byte_48.f (l0 : List Int) : Option (List Int) := if l0.length < 140737488355328 then some l0 else none
set_option maxHeartbeats 1000000 in
set_option maxRecDepth 100000 in
theorem slices_Clone_byte_byte_48.calls (A0 : Option Addr) (c0 : Nat) (l0 : List Int) (r : List Int) (w : World) (hr0 : Kd.C (Kd.int .u8) w A0 l0.length l0) (hc0 : l0.length ≤ c0) (h : slices_Clone_byte_byte_48.f l0 = some r) :
    Calls Try.prog 48 #[.slice A0 l0.length c0] w fun e w' => ∃ v0_ : Value, e = .returned (v0_) ∧ Kd.R (Kd.int .u8) 5 w' w.heap.size (fun _ => True) v0_ r ∧ Below w.heap.size w w' := by
  unfold slices_Clone_byte_byte_48.f at h
  split at h
  · rename_i hlt
    obtain rfl := Option.some.inj h
    have HL := Aside0.mk hlt
    have HR := Aside0.mk hr0
    have HC := Aside0.mk hc0
    clear hlt hr0 hc0 h
    have h1 := fun (w : World) (a : Option Addr) (n c n' c' : Nat) => Lib.run_eql_slice_nil (P := Try.prog) w 30 5 a n c n' c' Try.underlying30
    have HN : Aside0 (A0 = none → l0 = []) := ⟨fun e => by
      by_cases hz : 0 < l0.length
      · obtain ⟨ad, h, _⟩ := HR.out.2.2 hz
        rw [e] at h; cases h
      · exact List.eq_nil_of_length_eq_zero (by omega)⟩
    go_enter Try.func48, Try.ntmps48
    cases A0 with
    | none =>
      obtain rfl := HN.out rfl
      go_wp2
      go_ret
      exact ⟨_, rfl, Kd.R_nil _ _ _ _ _, Below.refl _ _⟩
    | some ad =>
      go_wp2_with (first | (at_builtin; refine Kd.R_append_row (Value.int .u8) (0 : Int) (h1 := fun _ => rfl) (w0 := w) w.heap.size rfl (.tmp 5) (.tmp 6) 30 5 (.int .u8 0) 1 rfl Try.underlying30 info5 rfl (by decide) (.slice (some ⟨w.heap.size, 0, none⟩) 0 0) [] l0 (some ad) l0.length c0 (fun _ => True) rfl rfl (fun _ _ => trivial) ?ho ?hr ?hb ?hs ?hl ?_; (case hr => exact Kd.C_below HR.out (below_alloc (Below.refl _ _) _)); (case hb => exact below_alloc (Below.refl _ _) _); (case hs => simp); (case hl => have := HL.out; simp; omega); (case ho => exact Kd.R_of_own (own_lit w w.heap.size 5 .u8 [] (Nat.le_refl _) (by decide)) (fun _ _ => trivial)); intro v1 w1 hR hB hg hat))
      go_ret
      exact ⟨_, rfl, hR, hB⟩
  · cases h

-- NOT PRINTED: function 9 (disk_New)

/-! ### gangwaylaw12_num: function 35 -/
def gangwaylaw12_num.f (a0 : Int) : Option (Int) := some a0
set_option maxHeartbeats 8000000 in
set_option maxRecDepth 100000 in
theorem gangwaylaw12_num.calls (a0 : Int) (r : Int) (w : World) (h : gangwaylaw12_num.f a0 = some r) :
    Calls Try.prog 35 #[.int .i64 a0] w fun e w' => e = .returned (.int .i64 r) ∧ Drawn0 w w' := by
  have H : (some a0) = some r := h
  clear h
  obtain rfl := Option.some.inj H
  go_enter Try.func35, Try.ntmps35
  go_wp2
  go_ret
  exact ⟨by first | rfl | (simp; done) | (simp [*]; done), by repeat (first | exact Drawn0.refl _ | apply Drawn0.step)⟩

-- NOT PRINTED: function 33 (gangwaylaw12_Disk)

-- NOT PRINTED: function 30 (disk_Disk_Count)

-- NOT PRINTED: function 52 (disk_at)

-- NOT PRINTED: function 18 (disk_Disk_Read)

end Go.Proofs.Ytpkhpfgojhojaaa.PLg

namespace Go.Proofs.Ytpkhpfgojhojaaa.PLg
open Go.RowKit Go.Proofs.YtpkhpfgojhojaaaW.PrintWords Go.Proofs.YtpkhpfgojhojaaaW.PrintLast Go.Proofs.YtpkhpfgojhojaaaW.PrintMore
attribute [local go_sem] max2_int min2_int max_two min_two max_three min_three max_four min_four
set_option linter.unusedVariables false
set_option linter.unusedSimpArgs false
-- IMPORT: Derived.Test.@N@WOwn
/-- Where two Clones are printed the first has its number in its name. -/
def slices_Clone_byte_byte.f (l0 : List Int) : Option (List Int) := if l0.length < 140737488355328 then some l0 else none
theorem slices_Clone_byte_byte.calls (A0 : Option Addr) (c0 : Nat) (l0 : List Int) (r : List Int) (w : World) (hr0 : Kd.C (Kd.int .u8) w A0 l0.length l0) (hc0 : l0.length ≤ c0) (h : slices_Clone_byte_byte.f l0 = some r) :
    Calls Try.prog 48 #[.slice A0 l0.length c0] w fun e w' => ∃ v0_ : Value, e = .returned (v0_) ∧ Kd.R (Kd.int .u8) 5 w' w.heap.size (fun _ => True) v0_ r ∧ Below w.heap.size w w' :=
  slices_Clone_byte_byte_48.calls A0 c0 l0 r w hr0 hc0 h

end Go.Proofs.Ytpkhpfgojhojaaa.PLg

namespace Go.Proofs.Ytpkhpfgojhojaaa.PLg
open Go.RowKit Go.Proofs.YtpkhpfgojhojaaaW.PrintWords Go.Proofs.YtpkhpfgojhojaaaW.PrintLast Go.Proofs.YtpkhpfgojhojaaaW.PrintMore
attribute [local go_sem] max2_int min2_int max_two min_two max_three min_three max_four min_four
set_option linter.unusedVariables false
set_option linter.unusedSimpArgs false
-- IMPORT: Derived.Test.@N@WOwn
-- IMPORT: Derived.Test.@N@DBase
/-! ### The built-in copy into a row of the call's own (a part of it). -/
theorem length_splice {α : Type} (L : List α) (off : Nat) (cs : List α) (h : off + cs.length ≤ L.length) : (splice L off cs).length = L.length := by
  unfold splice; rw [List.length_append, List.length_append, List.length_take, List.length_drop]; omega
theorem take_splice {α : Type} (L : List α) (off n : Nat) (cs : List α) (h : off + cs.length ≤ n) (hn : n ≤ L.length) : (splice L off cs).take n = splice (L.take n) off cs := by
  unfold splice
  rw [List.take_append, List.take_append, List.length_take, List.take_take, List.take_take, List.drop_take, List.take_of_length_le (l := cs) (by omega)]
  congr 2
  · omega
  · rw [show n - min off L.length - cs.length = n - (off + cs.length) by omega]
theorem R_splice {w : World} {base g n c off e : Nat} {k : IntKind} {ok : Nat → Prop} {xs ys : List Int} {cur : Array Value} (hR : (Kd.int k).R e w base ok (.slice (some ⟨g, 0, none⟩) n c) xs) (hcur : w.heap[g]? = some (.cells cur e (0, 0))) (hf : off + ys.length ≤ xs.length) (w' : World) (hw : w'.heap[g]? = some (.cells (splice cur.toList off (nums k ys)).toArray e (0, 0))) :
    (Kd.int k).R e w' base ok (.slice (some ⟨g, 0, none⟩) n c) (splice xs off ys) := by
  have ho := Kd.own_of_R hR
  have hn : n = xs.length := (Kd.R_reads' hR).1
  obtain ⟨hl, h | ⟨g', cap, cur', he, hb, hc', hnc, hcm, hsz, htk⟩⟩ := ho
  · obtain ⟨h, _⟩ := h; injection h with h _ _; cases h
  · injection he with e1 e2 e3
    injection e1 with e1
    injection e1 with e1
    subst e1
    rw [hcur] at hc'
    injection hc' with hc'
    injection hc' with hc' _
    subst hc'
    subst e3
    have hlen : (splice xs off ys).length = xs.length := length_splice _ _ _ hf
    have hnl : (nums k ys).length = ys.length := nums_length _ _
    rw [Nat.mul_one] at htk hsz
    have hcl : cur.toList.length = c := by rw [Array.length_toList]; exact hsz
    refine Kd.R_of_own ?_ hR.1
    rw [hlen]
    refine ⟨by rw [encs_length, hlen]; omega, .inr ⟨g, c, _, by rw [hn], hb, hw, hnc, hcm, ?_, ?_⟩⟩
    · rw [List.size_toArray, length_splice _ _ _ (by rw [hnl, hcl]; omega), hcl]; omega
    · rw [List.toList_toArray, Nat.mul_one, take_splice _ _ _ _ (by rw [hnl]; omega) (by rw [hcl]; omega), htk]
      exact nums_splice k xs off ys
theorem R_cur {w : World} {base g n c e : Nat} {k : IntKind} {ok : Nat → Prop} {xs : List Int} (hR : (Kd.int k).R e w base ok (.slice (some ⟨g, 0, none⟩) n c) xs) : ∃ cur : Array Value, w.heap[g]? = some (.cells cur e (0, 0)) ∧ n ≤ cur.size := by
  obtain ⟨hl, h | ⟨g', cap, cur', he, hb, hc', hnc, hcm, hsz, htk⟩⟩ := Kd.own_of_R hR
  · obtain ⟨h, _⟩ := h; injection h with h _ _; cases h
  · injection he with e1 e2 e3
    injection e1 with e1
    injection e1 with e1
    subst e1
    have hn : n = xs.length := (Kd.R_reads' hR).1
    exact ⟨cur', hc', by omega⟩
theorem grown_setRow (w : World) (g : Nat) (cs : Array Value) : w.grownBy (w.setRow g cs) (some g) := ⟨rfl, rfl, rfl, by simp [World.setRow], fun k _ hk => setRow_other w g k cs (fun e => hk (by rw [e]))⟩
theorem copy_run_R {P : Program} {w : World} {base g n c off e sLen dLen dCap sCap : Nat} {k : IntKind} {ok : Nat → Prop} {xs ys : List Int} {sp : Option Addr} (dT sT ty : TypeId) (hu : P.underlying dT = some (.slice e)) (hsz : (P.info? e).map (·.size) = some 1)
    (hR : (Kd.int k).R e w base ok (.slice (some ⟨g, 0, none⟩) n c) xs) (hy : Kd.C (Kd.int k) w sp sLen ys) (hp : 0 < sLen) (hd : sLen ≤ dLen) (hf : off + sLen ≤ n) :
    ∃ w', (Builtin.copy_ #[dT, sT] ty #[.slice (some ⟨g, off, none⟩) dLen dCap, .slice sp sLen sCap]).run P w = .ok (goInt sLen) w' ∧ (Kd.int k).R e w' base ok (.slice (some ⟨g, 0, none⟩) n c) (splice xs off ys) ∧ w.grownBy w' (some g) := by
  obtain ⟨cur, hcur, hcs⟩ := R_cur hR
  have hn : n = xs.length := (Kd.R_reads' hR).1
  have hl : ys.length = sLen := hy.1
  have hcl : cur.toList.length = cur.size := Array.length_toList
  obtain ⟨ad, rfl, hc⟩ := hy.2.2 hp
  have hnl : (nums k ys).length = ys.length := nums_length _ _
  have hrun := run_copy_row (P := P) w dT sT ty e g off dLen dCap ad sLen sCap cur e (nums k ys) hu hsz hcur (by rw [hnl, hl]; exact (Nat.min_eq_left hd).symm) (fun j v hj => by
    have hj3 : j < ys.length := by
      have := (List.getElem?_eq_some_iff.1 hj).1
      rwa [hnl] at this
    obtain ⟨q, hql, hqK, hqc⟩ := hc j ys[j] (List.getElem?_eq_getElem hj3)
    have hqK' : q = [.int k ys[j]] := hqK
    subst hqK'
    have h0 := hqc 0 (.int k ys[j]) rfl
    have e1 : (nums k ys)[j]? = some (.int k ys[j]) := by simp [nums, List.getElem?_eq_getElem hj3]
    rw [e1] at hj
    cases hj
    simpa [Kd.int, Kd.scalar] using h0) (by omega) (fun v hv => by
      simp only [nums, List.mem_map] at hv
      obtain ⟨q, _, rfl⟩ := hv
      rfl)
  rw [hnl, hl] at hrun
  refine ⟨_, hrun, R_splice hR hcur (by omega) _ ?_, grown_setRow _ _ _⟩
  rw [setRow_heap w g cur _ e (0, 0) hcur]
  unfold splice
  rw [hnl, hl, List.append_assoc]
theorem step_copy_R {P : Program} {ops : Array Oper} {o : Oper} {a : Act} {w : World} {K : Act → World → Prop} {Q : Exit → Act → World → Prop} {E : Prop} (hgd : o.guard = none) (d s : Operand) (dT sT : TypeId)
    (ho : o.op = .call { callee := .builtin .copy, args := #[d, s], argTypes := #[dT, sT] }) (e : TypeId) (hu : P.underlying dT = some (.slice e)) (hsz : (P.info? e).map (·.size) = some 1)
    (g off n c dLen dCap sLen sCap : Nat) (sp : Option Addr) (k : IntKind) (base : Nat) (ok : Nat → Prop) (xs ys : List Int) (hd : a.eval d = .slice (some ⟨g, off, none⟩) dLen dCap) (hs : a.eval s = .slice sp sLen sCap)
    (hR : (Kd.int k).R e w base ok (.slice (some ⟨g, 0, none⟩) n c) xs) (hy : Kd.C (Kd.int k) w sp sLen ys) (hp : 0 < sLen) (hdl : sLen ≤ dLen) (hf : off + sLen ≤ n)
    (h : ∀ w', Aside0 ((Kd.int k).R e w' base ok (.slice (some ⟨g, 0, none⟩) n c) (splice xs off ys)) → Aside0 (w.grownBy w' (some g)) → K (a.put o.dst (goInt sLen)) w') : if Region.wanted o (yielded ops a.tmps) = true then Oper.wp P o a w K Q else E := by
  have hw : Region.wanted o (yielded ops a.tmps) = true := by simp [Region.wanted, hgd]
  rw [if_pos hw]
  obtain ⟨w', hrun, h1, h2⟩ := copy_run_R (P := P) (dLen := dLen) (dCap := dCap) (sCap := sCap) dT sT o.type hu hsz hR hy hp hdl hf
  unfold Oper.wp
  simp [execOp, ho, resolve, invoke, builtin, hd, hs, hrun, Result.andThen]
  exact h w' ⟨h1⟩ ⟨h2⟩
/-- A row of numbers is read as before, where its block is kept. -/
theorem C_keptB {w w' : World} {S : Nat → Prop} {A : Option Addr} {n : Nat} {k : IntKind} {xs : List Int} (h : (Kd.int k).C w A n xs) (hk : Kept w w' S) (hA : ∀ ad, A = some ad → ¬ S ad.block) : (Kd.int k).C w' A n xs := by
  refine ⟨h.1, h.2.1, fun hp => ?_⟩
  obtain ⟨ad, e, hc⟩ := h.2.2 hp
  refine ⟨ad, e, fun j p hj => ?_⟩
  obtain ⟨c, h1, h2, h3⟩ := hc j p hj
  refine ⟨c, h1, h2, fun q u hu => cell_kept (h3 q u hu) hk ?_⟩
  have hb : ∀ m : Nat, (ad.add m).block = ad.block := fun m => by unfold Addr.add; split <;> rfl
  rw [hb]
  exact hA ad e

end Go.Proofs.Ytpkhpfgojhojaaa.PLg

namespace Go.Proofs.Ytpkhpfgojhojaaa.PLg
open Go.RowKit Go.Proofs.YtpkhpfgojhojaaaW.PrintWords Go.Proofs.YtpkhpfgojhojaaaW.PrintLast Go.Proofs.YtpkhpfgojhojaaaW.PrintMore
attribute [local go_sem] max2_int min2_int max_two min_two max_three min_three max_four min_four
set_option linter.unusedVariables false
set_option linter.unusedSimpArgs false
-- IMPORT: Derived.Test.@N@WOwn
-- IMPORT: Derived.Test.@N@DBase
theorem clone_some {l : List Int} (h : l.length ≤ 1048576) : slices_Clone_byte_byte.f l = some l := by unfold slices_Clone_byte_byte.f; rw [if_pos (by omega)]
theorem dk_keep_done {w w1 : World} {base d g' c' : Nat} {ok : Nat → Prop} {x : Dk} (h : DkAt w base ok d x) (hbs : base ≤ w.heap.size) (hb : Below w.heap.size w w1) (hR : (Kd.int .u8).R 5 w1 w.heap.size (fun _ => True) (.slice (some ⟨g', 0, none⟩) x.E.length c') x.E) :
    DkAt (w1.setCell ⟨d, 0, none⟩ (.slice (some ⟨g', 0, none⟩) x.E.length c')) base (fun k => ok k ∨ w.heap.size ≤ k) d { x with S := x.E } ∧ Kept w (w1.setCell ⟨d, 0, none⟩ (.slice (some ⟨g', 0, none⟩) x.E.length c')) ok ∧ Below base w (w1.setCell ⟨d, 0, none⟩ (.slice (some ⟨g', 0, none⟩) x.E.length c')) := by
  obtain ⟨gs, cs, ge, ce, bm, mm, D, h1, h2, h3, h4, h5, h6, h7, h8, h9, h10, h11⟩ := h
  have h1' := blk_below h1 hb
  have hg' : w.heap.size ≤ g' := Kd.R_base hR g' rfl
  have hE := Kd.R_set (Kd.R_below h3 hb) h1' (by decide) 0 (.slice (some ⟨g', 0, none⟩) x.E.length c')
  have hS := Kd.R_set hR h1' (by decide) 0 (.slice (some ⟨g', 0, none⟩) x.E.length c')
  have hge : ge < w.heap.size := Kd.R_lt h3 ge rfl
  refine ⟨⟨g', c', ge, ce, bm, mm, D, blk_set h1' 0 _, Kd.R_lower (Kd.R_mono (Kd.R_bound hS) (fun k hk => .inr hk.2.1)) hbs, Kd.R_mono hE (fun k hk => .inl hk), by omega, ?_, h6, h7, .inl h8, h9, .inl h10, ⟨rfl, h11.2⟩⟩, (Kept.of_below hb ok).setCell (.inl h8) _, (hb.mono hbs).setCell h7 _⟩
  refine ownsMap_move h5 ((Below.heap_setCell _ _ _ _ ?_).trans (hb.block bm h5.lt))
  rintro rfl
  obtain ⟨es, clock, hm, _⟩ := h5
  rw [h1] at hm
  cases hm
set_option maxHeartbeats 1000000 in
set_option maxRecDepth 100000 in
theorem dk_keep (d : Nat) (w : World) (base : Nat) (ok : Nat → Prop) (x : Dk) (h : DkAt w base ok d x) (hbs : base ≤ w.heap.size) :
    Calls Try.prog 49 #[.pointer (some ⟨d, 0, none⟩)] w fun e w' => e = .returned (.tuple #[]) ∧ DkAt w' base (fun k => ok k ∨ w.heap.size ≤ k) d { x with S := x.E } ∧ Kept w w' ok ∧ Below base w w' := by
  have H := Aside0.mk h
  have HBS := Aside0.mk hbs
  obtain ⟨gs, cs, ge, ce, bm, mm, D, h1, h2, h3, h4, h5, h6, h7, h8, h9, h10, h11⟩ := h
  have hct := (blk_cell h1 1).trans rfl
  have HF := Aside0.mk h11
  have HE := Aside0.mk (Kd.R_reads' h3)
  have H1 := Aside0.mk h1
  clear h1 h2 h3 h4 h5 h6 h7 h8 h9 h10 h11 hbs
  have hds := Try.underlying82
  go_enter Try.func49, Try.ntmps49
  go_wp2_with (first | (go_at_call 48; refine (slices_Clone_byte_byte.calls (some ⟨ge, 0, none⟩) ce x.E x.E _ HE.out.2.2 HE.out.2.1 (clone_some HF.out.2.2.2)).mono ?_; rintro e w1 ⟨v0, rfl, hR, hb⟩; obtain ⟨g', c', rfl, _⟩ := Kd.R_form hR (by have := HF.out.2.2.1; omega); have HR := Aside0.mk hR; have HB := Aside0.mk hb; have hc1 := (blk_cell (blk_below H1.out HB.out) 0).trans rfl; have hf1 := blk_frozen (blk_below H1.out HB.out) 0; clear hR hb))
  go_end0
  exact ⟨rfl, dk_keep_done H.out HBS.out HB.out HR.out⟩

end Go.Proofs.Ytpkhpfgojhojaaa.PLg

namespace Go.Proofs.Ytpkhpfgojhojaaa.PLg
open Go.RowKit Go.Proofs.YtpkhpfgojhojaaaW.PrintWords Go.Proofs.YtpkhpfgojhojaaaW.PrintLast Go.Proofs.YtpkhpfgojhojaaaW.PrintMore
attribute [local go_sem] max2_int min2_int max_two min_two max_three min_three max_four min_four   -- for this text's walks alone
set_option linter.unusedVariables false
set_option linter.unusedSimpArgs false

/-! ### slices_Equal_byte_byte: function 51 -/
def slices_Equal_byte_byte.l0 : Nat → List Int → List Int → Int → Int → Option (Bool)
  | 0, _, _, _, _ => none
  | k + 1, x0, x1, x12, x13 => if x13 < x12 then (if 0 ≤ x13 then (if x13 < (x0.length : Int) then (if x13 < (x1.length : Int) then (if (rd x0 x13) = (rd x1 x13) then (slices_Equal_byte_byte.l0 k x0 x1 x12 (wrap64 (x13 + 1))) else (some false)) else (none)) else (none)) else (none)) else (some true)
def slices_Equal_byte_byte.f (k : Nat) (l0 : List Int) (l1 : List Int) : Option (Bool) := if (l0.length : Int) = (l1.length : Int) then (slices_Equal_byte_byte.l0 k l0 l1 (l0.length : Int) 0) else (some false)
theorem slices_Equal_byte_byte.mono_l : ∀ k, (∀ y0 y1 y2 y3, LeO (slices_Equal_byte_byte.l0 k y0 y1 y2 y3) (slices_Equal_byte_byte.l0 (k + 1) y0 y1 y2 y3))
  | 0 => fun _ _ _ _ r h => by simp [slices_Equal_byte_byte.l0] at h
  | k + 1 => by
    have ih0 := slices_Equal_byte_byte.mono_l k
    · intro y0 y1 y2 y3
      unfold slices_Equal_byte_byte.l0
      repeat' first
      | (with_reducible exact ih0 _ _ _ _)
      | (with_reducible exact LeO.refl _)
      | (with_reducible exact LeO.none _)
      | (with_reducible refine LeO.ite ?_ ?_)
      | (with_reducible refine LeO.bind ?_ (fun _ => ?_))
      | exact ih0 _ _ _ _
      | exact LeO.none _
      | refine LeO.ite ?_ ?_
      | refine LeO.bind ?_ (fun _ => ?_)
theorem slices_Equal_byte_byte.mono : ∀ a0 a1 k, LeO (slices_Equal_byte_byte.f k a0 a1) (slices_Equal_byte_byte.f (k + 1) a0 a1) := by
  intro a0 a1 k
  have ih0 := slices_Equal_byte_byte.mono_l k
  unfold slices_Equal_byte_byte.f
  repeat' first
      | (with_reducible exact ih0 _ _ _ _)
      | (with_reducible exact LeO.refl _)
      | (with_reducible exact LeO.none _)
      | (with_reducible refine LeO.ite ?_ ?_)
      | (with_reducible refine LeO.bind ?_ (fun _ => ?_))
      | exact ih0 _ _ _ _
      | exact LeO.none _
      | refine LeO.ite ?_ ?_
      | refine LeO.bind ?_ (fun _ => ?_)
set_option maxHeartbeats 8000000 in
set_option maxRecDepth 100000 in
theorem slices_Equal_byte_byte.calls (k : Nat) (A0 : Option Addr) (c0 : Nat) (l0 : List Int) (A1 : Option Addr) (c1 : Nat) (l1 : List Int) (r : Bool) (w : World) (hr0 : Kd.C (Kd.int .u8) w A0 l0.length l0) (hc0 : l0.length ≤ c0) (hr1 : Kd.C (Kd.int .u8) w A1 l1.length l1) (hc1 : l1.length ≤ c1) (h : slices_Equal_byte_byte.f k l0 l1 = some r) :
    Calls Try.prog 51 #[.slice A0 l0.length c0, .slice A1 l1.length c1] w fun e w' => e = .returned (.bool r) ∧ Drawn0 w w' := by
  have HR0 := Aside0.mk hr0
  have HC0 := Aside0.mk hc0
  clear hr0 hc0
  have HR1 := Aside0.mk hr1
  have HC1 := Aside0.mk hc1
  clear hr1 hc1
  have H : (if (l0.length : Int) = (l1.length : Int) then (slices_Equal_byte_byte.l0 k l0 l1 (l0.length : Int) 0) else (some false)) = some r := h
  clear h
  by_cases c3 : (l0.length : Int) = (l1.length : Int)
  · rw [if_pos c3] at H
    have c3b0 : ((l0.length : Int) == (l1.length : Int)) = true := beq_iff_eq.mpr c3
    have c3b1 : ((l0.length : Int) != (l1.length : Int)) = false := bne_eq_false_iff_eq.mpr c3
    have c3b2 : (l0.length == l1.length) = true := by first | simpa using c3 | (simp at c3 ⊢; omega)
    clear c3
    have H' := Aside0.mk H
    clear H
    go_enter Try.func51, Try.ntmps51
    go_wp2
    repeat (go_quiet (fail); try go_wp2)
    go_loopg [13] k (fun kq v13 w' => ∃ (x13_1 : Int), v13 = .int .i64 x13_1 ∧ Aside0 (slices_Equal_byte_byte.l0 kq l0 l1 (l0.length : Int) x13_1 = some r) ∧ Aside0 (kq ≤ k) ∧ Drawn0 w w')
    case atStart => exact ⟨(0), (by first | rfl | (simp; done) | (simp [*]; done)), H', ⟨Nat.le_refl _⟩, by repeat (first | exact Drawn0.refl _ | apply Drawn0.step)⟩
    case round =>
      clear H'
      try clear c1
      try clear p2
      try clear c3
      try clear c3b0
      try clear c3b1
      try clear c3b2
      obtain ⟨x13_1, rfl, HA, HK1, ⟨m1, rfl⟩⟩ := hrel
      cases gk with
      | zero => exact absurd HA.out (by simp [slices_Equal_byte_byte.l0])
      | succ k1 =>
        have H := HA.out
        clear HA
        simp only [slices_Equal_byte_byte.l0] at H
        by_cases c4 : x13_1 < (l0.length : Int)
        · rw [if_pos c4] at H
          have c4b0 : decide (x13_1 < (l0.length : Int)) = true := decide_eq_true c4
          clear c4
          by_cases c5 : 0 ≤ x13_1
          · rw [if_pos c5] at H
            have c5b0 : decide (0 ≤ x13_1) = true := decide_eq_true c5
            clear c5
            by_cases c6 : x13_1 < (l0.length : Int)
            · rw [if_pos c6] at H
              have c6b0 : decide (x13_1 < (l0.length : Int)) = true := decide_eq_true c6
              clear c6
              by_cases c7 : x13_1 < (l1.length : Int)
              · rw [if_pos c7] at H
                have c7b0 : decide (x13_1 < (l1.length : Int)) = true := decide_eq_true c7
                clear c7
                by_cases c8 : (rd l0 x13_1) = (rd l1 x13_1)
                · rw [if_pos c8] at H
                  have c8b0 : ((rd l0 x13_1) == (rd l1 x13_1)) = true := beq_iff_eq.mpr c8
                  have c8b1 : ((rd l0 x13_1) != (rd l1 x13_1)) = false := bne_eq_false_iff_eq.mpr c8
                  clear c8
                  have H' := Aside0.mk H
                  clear H
                  have p181 : 0 ≤ (x13_1 : Int) := of_decide_eq_true (by first | (with_reducible assumption) | assumption)
                  have q181 : x13_1 < (l0.length : Int) := of_decide_eq_true (by first | (with_reducible assumption) | assumption)
                  obtain ⟨ad181, e181, hx181_0⟩ := Kd.at_int HR0.out x13_1 p181 q181
                  cases e181
                  replace p181 := eq_true p181
                  replace q181 := eq_true q181
                  have p182 : 0 ≤ (x13_1 : Int) := of_decide_eq_true (by first | (with_reducible assumption) | assumption)
                  have q182 : x13_1 < (l1.length : Int) := of_decide_eq_true (by first | (with_reducible assumption) | assumption)
                  obtain ⟨ad182, e182, hx182_0⟩ := Kd.at_int HR1.out x13_1 p182 q182
                  cases e182
                  replace p182 := eq_true p182
                  replace q182 := eq_true q182
                  go_wp2
                  repeat (go_quiet (fail); try go_wp2)
                  go_roundg k1
                  case measure => have := HK1.out; omega
                  case rel => exact ⟨(wrap64 (x13_1 + 1)), (by first | rfl | (simp; done) | (simp [*]; done)), H', ⟨by have := HK1.out; omega⟩, by repeat (first | exact Drawn0.refl _ | apply Drawn0.step)⟩
                · rw [if_neg c8] at H
                  have c8b0 : ((rd l0 x13_1) == (rd l1 x13_1)) = false := beq_eq_false_iff_ne.mpr c8
                  have c8b1 : ((rd l0 x13_1) != (rd l1 x13_1)) = true := bne_iff_ne.mpr c8
                  obtain rfl := Option.some.inj H
                  have p181 : 0 ≤ (x13_1 : Int) := of_decide_eq_true (by first | (with_reducible assumption) | assumption)
                  have q181 : x13_1 < (l0.length : Int) := of_decide_eq_true (by first | (with_reducible assumption) | assumption)
                  obtain ⟨ad181, e181, hx181_0⟩ := Kd.at_int HR0.out x13_1 p181 q181
                  cases e181
                  replace p181 := eq_true p181
                  replace q181 := eq_true q181
                  have p182 : 0 ≤ (x13_1 : Int) := of_decide_eq_true (by first | (with_reducible assumption) | assumption)
                  have q182 : x13_1 < (l1.length : Int) := of_decide_eq_true (by first | (with_reducible assumption) | assumption)
                  obtain ⟨ad182, e182, hx182_0⟩ := Kd.at_int HR1.out x13_1 p182 q182
                  cases e182
                  replace p182 := eq_true p182
                  replace q182 := eq_true q182
                  go_wp2
                  repeat (go_quiet (fail); try go_wp2)
                  go_ret
                  exact ⟨by first | rfl | (simp; done) | (simp [*]; done), by repeat (first | exact Drawn0.refl _ | apply Drawn0.step)⟩
              · rw [if_neg c7] at H
                exact absurd H (by simp)
            · rw [if_neg c6] at H
              exact absurd H (by simp)
          · rw [if_neg c5] at H
            exact absurd H (by simp)
        · rw [if_neg c4] at H
          have c4b0 : decide (x13_1 < (l0.length : Int)) = false := decide_eq_false c4
          clear c4
          obtain rfl := Option.some.inj H
          go_wp2
          repeat (go_quiet (fail); try go_wp2)
          go_ret
          exact ⟨by first | rfl | (simp; done) | (simp [*]; done), by repeat (first | exact Drawn0.refl _ | apply Drawn0.step)⟩
  · rw [if_neg c3] at H
    have c3b0 : ((l0.length : Int) == (l1.length : Int)) = false := beq_eq_false_iff_ne.mpr c3
    have c3b1 : ((l0.length : Int) != (l1.length : Int)) = true := bne_iff_ne.mpr c3
    have c3b2 : (l0.length == l1.length) = false := by first | simpa using c3 | (simp at c3 ⊢; omega)
    obtain rfl := Option.some.inj H
    go_enter Try.func51, Try.ntmps51
    go_wp2
    repeat (go_quiet (fail); try go_wp2)
    go_ret
    exact ⟨by first | rfl | (simp; done) | (simp [*]; done), by repeat (first | exact Drawn0.refl _ | apply Drawn0.step)⟩

end Go.Proofs.Ytpkhpfgojhojaaa.PLg

namespace Go.Proofs.Ytpkhpfgojhojaaa.PLg
open Go.RowKit Go.Proofs.YtpkhpfgojhojaaaW.PrintWords Go.Proofs.YtpkhpfgojhojaaaW.PrintLast Go.Proofs.YtpkhpfgojhojaaaW.PrintMore
attribute [local go_sem] max2_int min2_int max_two min_two max_three min_three max_four min_four   -- for this text's walks alone
set_option linter.unusedVariables false
set_option linter.unusedSimpArgs false

/-! ### gangwaylaw11_sector: function 16 -/
def gangwaylaw11_sector.l0 : Nat → Int → List Int → Int → Option (List Int)
  | 0, _, _, _ => none
  | k + 1, x0, x3, x4 => if x4 < (x3.length : Int) then (if 0 ≤ x4 then (gangwaylaw11_sector.l0 k x0 (x3.set (x4 : Int).toNat ((wrap64 (x0 + x4)) % 256)) (wrap64 (x4 + 1))) else (none)) else (some x3)
def gangwaylaw11_sector.f (k : Nat) (a0 : Int) : Option (List Int) := if 64 ≤ 281474976710656 then (gangwaylaw11_sector.l0 k a0 (List.replicate 64 0) 0) else (none)
theorem gangwaylaw11_sector.mono_l : ∀ k, (∀ y0 y1 y2, LeO (gangwaylaw11_sector.l0 k y0 y1 y2) (gangwaylaw11_sector.l0 (k + 1) y0 y1 y2))
  | 0 => fun _ _ _ r h => by simp [gangwaylaw11_sector.l0] at h
  | k + 1 => by
    have ih0 := gangwaylaw11_sector.mono_l k
    · intro y0 y1 y2
      unfold gangwaylaw11_sector.l0
      repeat' first
      | (with_reducible exact ih0 _ _ _)
      | (with_reducible exact LeO.refl _)
      | (with_reducible exact LeO.none _)
      | (with_reducible refine LeO.ite ?_ ?_)
      | (with_reducible refine LeO.bind ?_ (fun _ => ?_))
      | exact ih0 _ _ _
      | exact LeO.none _
      | refine LeO.ite ?_ ?_
      | refine LeO.bind ?_ (fun _ => ?_)
theorem gangwaylaw11_sector.mono : ∀ a0 k, LeO (gangwaylaw11_sector.f k a0) (gangwaylaw11_sector.f (k + 1) a0) := by
  intro a0 k
  have ih0 := gangwaylaw11_sector.mono_l k
  unfold gangwaylaw11_sector.f
  repeat' first
      | (with_reducible exact ih0 _ _ _)
      | (with_reducible exact LeO.refl _)
      | (with_reducible exact LeO.none _)
      | (with_reducible refine LeO.ite ?_ ?_)
      | (with_reducible refine LeO.bind ?_ (fun _ => ?_))
      | exact ih0 _ _ _
      | exact LeO.none _
      | refine LeO.ite ?_ ?_
      | refine LeO.bind ?_ (fun _ => ?_)
set_option maxHeartbeats 8000000 in
set_option maxRecDepth 100000 in
theorem gangwaylaw11_sector.calls (k : Nat) (a0 : Int) (r : List Int) (w : World) (h : gangwaylaw11_sector.f k a0 = some r) :
    Calls Try.prog 16 #[.int .i64 a0] w fun e w' => ∃ v0_ : Value, e = .returned (v0_) ∧ Kd.R (Kd.int .u8) 5 w' w.heap.size (fun _ => True) v0_ r ∧ Below w.heap.size w w' := by
  have HB := Aside0.mk (Below.refl w.heap.size w)
  have H : (if 64 ≤ 281474976710656 then (gangwaylaw11_sector.l0 k a0 (List.replicate 64 0) 0) else (none)) = some r := h
  clear h
  by_cases c2 : 64 ≤ 281474976710656
  · rw [if_pos c2] at H
    have c2b0 := eq_true c2
    have c2b1 : decide (64 ≤ 281474976710656) = true := decide_eq_true c2
    clear c2
    obtain ⟨y216, hy216⟩ : ∃ y_ : List Int, y_ = (List.replicate 64 0) := ⟨_, rfl⟩
    replace H : (gangwaylaw11_sector.l0 k a0 y216 0) = some r := by first | (rw [hy216]; with_reducible exact H) | (have H2_ := (Option.bind_some _ _).symm.trans H; rw [hy216]; with_reducible exact H2_) | (have H2_ := (Option.bind_some _ _).symm.trans H; with_reducible exact H2_) | with_reducible exact H | (rw [hy216]; exact H) | exact H
    have Ny216 := Aside0.mk hy216
    clear hy216
    have H' := Aside0.mk H
    clear H
    go_enter Try.func16, Try.ntmps16
    go_wp2_with (first | ((with_reducible refine gate_dst (N := 5) rfl ?_); refine Kd.R_make (Kd.int .u8) _ 5 rfl (N := 5) rfl 30 _ _ rfl 64 rfl rfl Try.underlying30 (.int .u8 0) 1 info5 rfl (by decide) (by omega) 0 (ok := fun _ => True) (okp := fun _ => True) rfl (fun _ hk => hk) trivial (by omega) (by omega) (Below.refl _ _) (Nat.le_refl _) ?_; intro v217 w3 ho4 hb hg_ hnew_; clear hg_ hnew_; (first | rw [← Ny216.out] at ho4 | (simp only [Int.reduceToNat] at ho4; rw [← Ny216.out] at ho4)); have n0_ := Aside0.mk (Kd.R_lower ho4 (below_size (by repeat (first | (with_reducible first | exact HB.out | apply below_alloc | apply pw_below_drewN | apply below_drew1) | exact HB.out)))); have n1_ := Aside0.mk (below_step (by repeat (first | (with_reducible first | exact HB.out | apply below_alloc | apply pw_below_drewN | apply below_drew1) | exact HB.out)) hb); clear HB; have HO218 := n0_; have HB := n1_; clear n0_ n1_; clear hb ho4))
    go_loopg [4] k (fun kq v4 w' => ∃ (x3_1 : List Int) (x4_1 : Int), v4 = .int .i64 x4_1 ∧ Aside0 (gangwaylaw11_sector.l0 kq a0 x3_1 x4_1 = some r) ∧ Aside0 (kq ≤ k) ∧ Aside0 (Kd.R (Kd.int .u8) 5 w' w.heap.size (fun _ => True) v217 x3_1) ∧ Aside0 (Below w.heap.size w w'))
    case atStart => exact ⟨(y216), (0), (by first | rfl | (simp; done) | (simp [*]; done)), H', ⟨Nat.le_refl _⟩, ⟨by (with_reducible repeat (first | apply Kd.R_alloc | apply Kd.R_drewN | apply Kd.R_drew)); exact HO218.out⟩, ⟨by repeat (first | (with_reducible first | exact HB.out | apply below_alloc | apply pw_below_drewN | apply below_drew1) | exact HB.out)⟩⟩
    case round =>
      clear H'
      try clear c1
      try clear c2
      try clear c2b0
      try clear c2b1
      try clear p2
      obtain ⟨x3_1, x4_1, rfl, HA, HK1, HO_3, HB⟩ := hrel
      cases gk with
      | zero => exact absurd HA.out (by simp [gangwaylaw11_sector.l0])
      | succ k1 =>
        have H := HA.out
        clear HA
        simp only [gangwaylaw11_sector.l0] at H
        by_cases c5 : x4_1 < (x3_1.length : Int)
        · rw [if_pos c5] at H
          have c5b0 : decide (x4_1 < (x3_1.length : Int)) = true := decide_eq_true c5
          clear c5
          by_cases c6 : 0 ≤ x4_1
          · rw [if_pos c6] at H
            have c6b0 : decide (0 ≤ x4_1) = true := decide_eq_true c6
            clear c6
            obtain ⟨y219, hy219⟩ : ∃ y_ : List Int, y_ = (x3_1.set (x4_1 : Int).toNat ((wrap64 (a0 + x4_1)) % 256)) := ⟨_, rfl⟩
            replace H : (gangwaylaw11_sector.l0 k1 a0 y219 (wrap64 (x4_1 + 1))) = some r := by first | (rw [hy219]; with_reducible exact H) | (have H2_ := (Option.bind_some _ _).symm.trans H; rw [hy219]; with_reducible exact H2_) | (have H2_ := (Option.bind_some _ _).symm.trans H; with_reducible exact H2_) | with_reducible exact H | (rw [hy219]; exact H) | exact H
            have Ny219 := Aside0.mk hy219
            clear hy219
            have H' := Aside0.mk H
            clear H
            obtain ⟨Ao8, co8, eo8⟩ := Kd.R_slice HO_3.out
            subst eo8
            have p7 : 0 ≤ (x4_1 : Int) := of_decide_eq_true (by first | (with_reducible assumption) | assumption)
            have q7 : (x4_1 : Int) < ((x3_1.length : Int) : Int) := of_decide_eq_true (by first | (with_reducible assumption) | assumption)
            obtain ⟨go7, co7, eo7, gb7, gl7, cl7, HG7⟩ := Kd.R_form HO_3.out (by omega)
            (first | cases eo7 | (injection eo7 with ea_ en_ ec_; (first | subst ea_ | (injection ea_ with ea_; subst ea_)); subst ec_; clear en_))
            have GB7 := Aside0.mk gb7
            have GG7 := Aside0.mk HG7
            clear gb7 gl7 HG7
            obtain ⟨hx7_0, hf7_0⟩ := Kd.R_celln 0 HO_3.out (x4_1 : Int) p7 q7
            replace p7 := eq_true p7
            replace q7 := eq_true q7
            have HP9 := Kd.R_putg HO_3.out (x4_1 : Int) ((wrap64 (a0 + x4_1)) % 256)
            go_wp2_with (first | ((with_reducible refine gate_store (t := 5) (p := 18) rfl ?_); refine store_event (t := 5) (p := 18) (v := ?vo_w10) (w1 := (wr.setCell ⟨go7, (x4_1 : Int).toNat, none⟩ (.int .u8 ((wrap64 (a0 + x4_1)) % 256)))) ?hg ?ho ?hn ?hr ?_; (case ho => rfl); (case hg => rfl); (case hn => rfl); (case hr => first | (go_simp; done) | (go_simp; rfl)); intro w10 hw; have hg : wr.grownBy w10 (some go7) := (by rw [hw]; exact HP9.2); have hp_ : Kd.R (Kd.int .u8) 5 w10 w.heap.size (fun _ => True) (.slice (some ⟨go7, 0, none⟩) x3_1.length co8) y219 := (by rw [hw, Ny219.out]; exact HP9.1); clear HP9; have n0_ := Aside0.mk (hp_); have n1_ := Aside0.mk ((by rw [hw]; exact below_set (HB.out) GB7.out : Below w.heap.size w w10)); clear HO_3; clear HB; have HO_3 := n0_; have HB := n1_; clear n0_ n1_; clear hg hw hp_))
            go_roundg k1
            case measure => have := HK1.out; omega
            case rel => exact ⟨(y219), (wrap64 (x4_1 + 1)), (by first | rfl | (simp; done) | (simp [*]; done)), H', ⟨by have := HK1.out; omega⟩, ⟨by (with_reducible repeat (first | apply Kd.R_alloc | apply Kd.R_drewN | apply Kd.R_drew)); exact HO_3.out⟩, ⟨by repeat (first | (with_reducible first | exact HB.out | apply below_alloc | apply pw_below_drewN | apply below_drew1) | exact HB.out)⟩⟩
          · rw [if_neg c6] at H
            exact absurd H (by simp)
        · rw [if_neg c5] at H
          have c5b0 : decide (x4_1 < (x3_1.length : Int)) = false := decide_eq_false c5
          clear c5
          obtain rfl := Option.some.inj H
          obtain ⟨Ao11, co11, eo11⟩ := Kd.R_slice HO_3.out
          subst eo11
          go_wp2
          go_ret
          exact ⟨_, by first | rfl | (simp [errW_none, errW_some] <;> rfl) | (simp [*, errW_none, errW_some] <;> rfl), by (with_reducible repeat (first | apply Kd.R_alloc | apply Kd.R_drewN | apply Kd.R_drew)); exact HO_3.out, by repeat (first | (with_reducible first | exact HB.out | apply below_alloc | apply pw_below_drewN | apply below_drew1) | exact HB.out)⟩
  · rw [if_neg c2] at H
    exact absurd H (by simp)

end Go.Proofs.Ytpkhpfgojhojaaa.PLg

namespace Go.Proofs.Ytpkhpfgojhojaaa.PLg
open Go.RowKit Go.Proofs.YtpkhpfgojhojaaaW.PrintWords Go.Proofs.YtpkhpfgojhojaaaW.PrintLast Go.Proofs.YtpkhpfgojhojaaaW.PrintMore
attribute [local go_sem] max2_int min2_int max_two min_two max_three min_three max_four min_four   -- for this text's walks alone
set_option linter.unusedVariables false
set_option linter.unusedSimpArgs false

/-! ### gangwayref0_EqBytes: function 19 -/
def gangwayref0_EqBytes.l0 : Nat → List Int → List Int → Int → Option (Bool)
  | 0, _, _, _ => none
  | k + 1, x0, x1, x5 => if x5 < (x0.length : Int) then (if 0 ≤ x5 then (if x5 < (x1.length : Int) then (if (rd x0 x5) = (rd x1 x5) then (gangwayref0_EqBytes.l0 k x0 x1 (wrap64 (x5 + 1))) else (some false)) else (none)) else (none)) else (some true)
def gangwayref0_EqBytes.f (k : Nat) (l0 : List Int) (l1 : List Int) : Option (Bool) := if (l0.length : Int) = (l1.length : Int) then (gangwayref0_EqBytes.l0 k l0 l1 0) else (some false)
theorem gangwayref0_EqBytes.mono_l : ∀ k, (∀ y0 y1 y2, LeO (gangwayref0_EqBytes.l0 k y0 y1 y2) (gangwayref0_EqBytes.l0 (k + 1) y0 y1 y2))
  | 0 => fun _ _ _ r h => by simp [gangwayref0_EqBytes.l0] at h
  | k + 1 => by
    have ih0 := gangwayref0_EqBytes.mono_l k
    · intro y0 y1 y2
      unfold gangwayref0_EqBytes.l0
      repeat' first
      | (with_reducible exact ih0 _ _ _)
      | (with_reducible exact LeO.refl _)
      | (with_reducible exact LeO.none _)
      | (with_reducible refine LeO.ite ?_ ?_)
      | (with_reducible refine LeO.bind ?_ (fun _ => ?_))
      | exact ih0 _ _ _
      | exact LeO.none _
      | refine LeO.ite ?_ ?_
      | refine LeO.bind ?_ (fun _ => ?_)
theorem gangwayref0_EqBytes.mono : ∀ a0 a1 k, LeO (gangwayref0_EqBytes.f k a0 a1) (gangwayref0_EqBytes.f (k + 1) a0 a1) := by
  intro a0 a1 k
  have ih0 := gangwayref0_EqBytes.mono_l k
  unfold gangwayref0_EqBytes.f
  repeat' first
      | (with_reducible exact ih0 _ _ _)
      | (with_reducible exact LeO.refl _)
      | (with_reducible exact LeO.none _)
      | (with_reducible refine LeO.ite ?_ ?_)
      | (with_reducible refine LeO.bind ?_ (fun _ => ?_))
      | exact ih0 _ _ _
      | exact LeO.none _
      | refine LeO.ite ?_ ?_
      | refine LeO.bind ?_ (fun _ => ?_)
set_option maxHeartbeats 8000000 in
set_option maxRecDepth 100000 in
theorem gangwayref0_EqBytes.calls (k : Nat) (A0 : Option Addr) (c0 : Nat) (l0 : List Int) (A1 : Option Addr) (c1 : Nat) (l1 : List Int) (r : Bool) (w : World) (hr0 : Kd.C (Kd.int .u8) w A0 l0.length l0) (hc0 : l0.length ≤ c0) (hr1 : Kd.C (Kd.int .u8) w A1 l1.length l1) (hc1 : l1.length ≤ c1) (h : gangwayref0_EqBytes.f k l0 l1 = some r) :
    Calls Try.prog 19 #[.slice A0 l0.length c0, .slice A1 l1.length c1] w fun e w' => e = .returned (.bool r) ∧ Drawn0 w w' := by
  have HR0 := Aside0.mk hr0
  have HC0 := Aside0.mk hc0
  clear hr0 hc0
  have HR1 := Aside0.mk hr1
  have HC1 := Aside0.mk hc1
  clear hr1 hc1
  have H : (if (l0.length : Int) = (l1.length : Int) then (gangwayref0_EqBytes.l0 k l0 l1 0) else (some false)) = some r := h
  clear h
  by_cases c3 : (l0.length : Int) = (l1.length : Int)
  · rw [if_pos c3] at H
    have c3b0 : ((l0.length : Int) == (l1.length : Int)) = true := beq_iff_eq.mpr c3
    have c3b1 : ((l0.length : Int) != (l1.length : Int)) = false := bne_eq_false_iff_eq.mpr c3
    have c3b2 : (l0.length == l1.length) = true := by first | simpa using c3 | (simp at c3 ⊢; omega)
    clear c3
    have H' := Aside0.mk H
    clear H
    go_enter Try.func19, Try.ntmps19
    go_wp2
    repeat (go_quiet (fail); try go_wp2)
    go_loopg [5] k (fun kq v5 w' => ∃ (x5_1 : Int), v5 = .int .i64 x5_1 ∧ Aside0 (gangwayref0_EqBytes.l0 kq l0 l1 x5_1 = some r) ∧ Aside0 (kq ≤ k) ∧ Drawn0 w w')
    case atStart => exact ⟨(0), (by first | rfl | (simp; done) | (simp [*]; done)), H', ⟨Nat.le_refl _⟩, by repeat (first | exact Drawn0.refl _ | apply Drawn0.step)⟩
    case round =>
      clear H'
      try clear c1
      try clear p2
      try clear c3
      try clear c3b0
      try clear c3b1
      try clear c3b2
      obtain ⟨x5_1, rfl, HA, HK1, ⟨m1, rfl⟩⟩ := hrel
      cases gk with
      | zero => exact absurd HA.out (by simp [gangwayref0_EqBytes.l0])
      | succ k1 =>
        have H := HA.out
        clear HA
        simp only [gangwayref0_EqBytes.l0] at H
        by_cases c4 : x5_1 < (l0.length : Int)
        · rw [if_pos c4] at H
          have c4b0 : decide (x5_1 < (l0.length : Int)) = true := decide_eq_true c4
          clear c4
          by_cases c5 : 0 ≤ x5_1
          · rw [if_pos c5] at H
            have c5b0 : decide (0 ≤ x5_1) = true := decide_eq_true c5
            clear c5
            by_cases c6 : x5_1 < (l1.length : Int)
            · rw [if_pos c6] at H
              have c6b0 : decide (x5_1 < (l1.length : Int)) = true := decide_eq_true c6
              clear c6
              by_cases c7 : (rd l0 x5_1) = (rd l1 x5_1)
              · rw [if_pos c7] at H
                have c7b0 : ((rd l0 x5_1) == (rd l1 x5_1)) = true := beq_iff_eq.mpr c7
                have c7b1 : ((rd l0 x5_1) != (rd l1 x5_1)) = false := bne_eq_false_iff_eq.mpr c7
                clear c7
                have H' := Aside0.mk H
                clear H
                have p143 : 0 ≤ (x5_1 : Int) := of_decide_eq_true (by first | (with_reducible assumption) | assumption)
                have q143 : x5_1 < (l0.length : Int) := of_decide_eq_true (by first | (with_reducible assumption) | assumption)
                obtain ⟨ad143, e143, hx143_0⟩ := Kd.at_int HR0.out x5_1 p143 q143
                cases e143
                replace p143 := eq_true p143
                replace q143 := eq_true q143
                have p144 : 0 ≤ (x5_1 : Int) := of_decide_eq_true (by first | (with_reducible assumption) | assumption)
                have q144 : x5_1 < (l1.length : Int) := of_decide_eq_true (by first | (with_reducible assumption) | assumption)
                obtain ⟨ad144, e144, hx144_0⟩ := Kd.at_int HR1.out x5_1 p144 q144
                cases e144
                replace p144 := eq_true p144
                replace q144 := eq_true q144
                go_wp2
                repeat (go_quiet (fail); try go_wp2)
                go_roundg k1
                case measure => have := HK1.out; omega
                case rel => exact ⟨(wrap64 (x5_1 + 1)), (by first | rfl | (simp; done) | (simp [*]; done)), H', ⟨by have := HK1.out; omega⟩, by repeat (first | exact Drawn0.refl _ | apply Drawn0.step)⟩
              · rw [if_neg c7] at H
                have c7b0 : ((rd l0 x5_1) == (rd l1 x5_1)) = false := beq_eq_false_iff_ne.mpr c7
                have c7b1 : ((rd l0 x5_1) != (rd l1 x5_1)) = true := bne_iff_ne.mpr c7
                obtain rfl := Option.some.inj H
                have p143 : 0 ≤ (x5_1 : Int) := of_decide_eq_true (by first | (with_reducible assumption) | assumption)
                have q143 : x5_1 < (l0.length : Int) := of_decide_eq_true (by first | (with_reducible assumption) | assumption)
                obtain ⟨ad143, e143, hx143_0⟩ := Kd.at_int HR0.out x5_1 p143 q143
                cases e143
                replace p143 := eq_true p143
                replace q143 := eq_true q143
                have p144 : 0 ≤ (x5_1 : Int) := of_decide_eq_true (by first | (with_reducible assumption) | assumption)
                have q144 : x5_1 < (l1.length : Int) := of_decide_eq_true (by first | (with_reducible assumption) | assumption)
                obtain ⟨ad144, e144, hx144_0⟩ := Kd.at_int HR1.out x5_1 p144 q144
                cases e144
                replace p144 := eq_true p144
                replace q144 := eq_true q144
                go_wp2
                repeat (go_quiet (fail); try go_wp2)
                go_ret
                exact ⟨by first | rfl | (simp; done) | (simp [*]; done), by repeat (first | exact Drawn0.refl _ | apply Drawn0.step)⟩
            · rw [if_neg c6] at H
              exact absurd H (by simp)
          · rw [if_neg c5] at H
            exact absurd H (by simp)
        · rw [if_neg c4] at H
          have c4b0 : decide (x5_1 < (l0.length : Int)) = false := decide_eq_false c4
          clear c4
          obtain rfl := Option.some.inj H
          go_wp2
          repeat (go_quiet (fail); try go_wp2)
          go_ret
          exact ⟨by first | rfl | (simp; done) | (simp [*]; done), by repeat (first | exact Drawn0.refl _ | apply Drawn0.step)⟩
  · rw [if_neg c3] at H
    have c3b0 : ((l0.length : Int) == (l1.length : Int)) = false := beq_eq_false_iff_ne.mpr c3
    have c3b1 : ((l0.length : Int) != (l1.length : Int)) = true := bne_iff_ne.mpr c3
    have c3b2 : (l0.length == l1.length) = false := by first | simpa using c3 | (simp at c3 ⊢; omega)
    obtain rfl := Option.some.inj H
    go_enter Try.func19, Try.ntmps19
    go_wp2
    repeat (go_quiet (fail); try go_wp2)
    go_ret
    exact ⟨by first | rfl | (simp; done) | (simp [*]; done), by repeat (first | exact Drawn0.refl _ | apply Drawn0.step)⟩

end Go.Proofs.Ytpkhpfgojhojaaa.PLg

namespace Go.Proofs.Ytpkhpfgojhojaaa.PLg
open Go.RowKit Go.Proofs.YtpkhpfgojhojaaaW.PrintWords Go.Proofs.YtpkhpfgojhojaaaW.PrintLast Go.Proofs.YtpkhpfgojhojaaaW.PrintMore
attribute [local go_sem] max2_int min2_int max_two min_two max_three min_three max_four min_four   -- for this text's walks alone
set_option linter.unusedVariables false
set_option linter.unusedSimpArgs false

/-! ### gangwaylaw11_is: function 14 -/
def gangwaylaw11_is.f (k : Nat) (l0 : List Int) (a1 : Int) : Option (Bool) := if a1 < 0 then (if 64 ≤ 281474976710656 then ((gangwayref0_EqBytes.f k l0 (List.replicate 64 0)).bind fun t223 => (some t223)) else (none)) else ((gangwaylaw11_sector.f k a1).bind fun t224 => ((gangwayref0_EqBytes.f k l0 t224).bind fun t227 => (some t227)))
theorem gangwaylaw11_is.mono : ∀ a0 a1 k, LeO (gangwaylaw11_is.f k a0 a1) (gangwaylaw11_is.f (k + 1) a0 a1) := by
  intro a0 a1 k
  unfold gangwaylaw11_is.f
  repeat' first
      | (with_reducible exact gangwaylaw11_sector.mono _ _)
      | (with_reducible exact gangwayref0_EqBytes.mono _ _ _)
      | (with_reducible exact LeO.refl _)
      | (with_reducible exact LeO.none _)
      | (with_reducible refine LeO.ite ?_ ?_)
      | (with_reducible refine LeO.bind ?_ (fun _ => ?_))
      | exact gangwaylaw11_sector.mono _ _
      | exact gangwayref0_EqBytes.mono _ _ _
      | exact LeO.none _
      | refine LeO.ite ?_ ?_
      | refine LeO.bind ?_ (fun _ => ?_)
set_option maxHeartbeats 8000000 in
set_option maxRecDepth 100000 in
theorem gangwaylaw11_is.calls (k : Nat) (A0 : Option Addr) (c0 : Nat) (l0 : List Int) (a1 : Int) (r : Bool) (w : World) (hr0 : Kd.C (Kd.int .u8) w A0 l0.length l0) (hc0 : l0.length ≤ c0) (h : gangwaylaw11_is.f k l0 a1 = some r) :
    Calls Try.prog 14 #[.slice A0 l0.length c0, .int .i64 a1] w fun e w' => e = .returned (.bool r) ∧ Below w.heap.size w w' := by
  have HR0 := Aside0.mk hr0
  have HC0 := Aside0.mk hc0
  clear hr0 hc0
  have HB := Aside0.mk (Below.refl w.heap.size w)
  have H : (if a1 < 0 then (if 64 ≤ 281474976710656 then ((gangwayref0_EqBytes.f k l0 (List.replicate 64 0)).bind fun t223 => (some t223)) else (none)) else ((gangwaylaw11_sector.f k a1).bind fun t224 => ((gangwayref0_EqBytes.f k l0 t224).bind fun t227 => (some t227)))) = some r := h
  clear h
  by_cases c3 : a1 < 0
  · rw [if_pos c3] at H
    have c3b0 : decide (a1 < 0) = true := decide_eq_true c3
    clear c3
    by_cases c4 : 64 ≤ 281474976710656
    · rw [if_pos c4] at H
      have c4b0 := eq_true c4
      have c4b1 : decide (64 ≤ 281474976710656) = true := decide_eq_true c4
      clear c4
      obtain ⟨y220, hy220⟩ : ∃ y_ : List Int, y_ = (List.replicate 64 0) := ⟨_, rfl⟩
      replace H : ((gangwayref0_EqBytes.f k l0 y220).bind fun t223 => (some t223)) = some r := by first | (rw [hy220]; with_reducible exact H) | (have H2_ := (Option.bind_some _ _).symm.trans H; rw [hy220]; with_reducible exact H2_) | (have H2_ := (Option.bind_some _ _).symm.trans H; with_reducible exact H2_) | with_reducible exact H | (rw [hy220]; exact H) | exact H
      have Ny220 := Aside0.mk hy220
      clear hy220
      replace H := Option.bind_eq_some_iff.mp H
      obtain ⟨t223, A50, H⟩ := H
      replace H : (some t223) = some r := H
      have A5 := Aside0.mk A50
      clear A50
      obtain rfl := Option.some.inj H
      go_enter Try.func14, Try.ntmps14
      go_wp2_with (first | ((with_reducible refine gate_dst (N := 8) rfl ?_); refine Kd.R_make (Kd.int .u8) _ 5 rfl (N := 8) rfl 30 _ _ rfl 64 rfl rfl Try.underlying30 (.int .u8 0) 1 info5 rfl (by decide) (by omega) 0 (ok := fun _ => True) (okp := fun _ => True) rfl (fun _ hk => hk) trivial (by omega) (by omega) (Below.refl _ _) (Nat.le_refl _) ?_; intro v221 w6 ho7 hb hg_ hnew_; clear hg_ hnew_; (first | rw [← Ny220.out] at ho7 | (simp only [Int.reduceToNat] at ho7; rw [← Ny220.out] at ho7)); have n0_ := Aside0.mk (Kd.R_lower ho7 (below_size (by repeat (first | (with_reducible first | exact HB.out | apply below_alloc | apply pw_below_drewN | apply below_drew1) | exact HB.out)))); have n1_ := Aside0.mk (below_step (by repeat (first | (with_reducible first | exact HB.out | apply below_alloc | apply pw_below_drewN | apply below_drew1) | exact HB.out)) hb); clear HB; have HO222 := n0_; have HB := n1_; clear n0_ n1_; clear hb ho7; obtain ⟨Ao8, co8, eo8⟩ := Kd.R_slice HO222.out; subst eo8) | ((with_reducible refine gate_callee (f := 19) rfl ?_); refine goesL_ (some 9) rfl rfl Try.func19 (by kernel_rfl) rfl #[.slice A0 l0.length c0, .slice Ao8 y220.length co8] rfl (by (try simp only [List.map_toArray, List.map_cons, List.map_nil]); first | done | rfl | (simp only [List.length_drop, List.length_take]; rfl)) ?_; (with_reducible refine (gangwayref0_EqBytes.calls k _ _ l0 _ _ y220 t223 _ ?side1 ?side2 ?side3 ?side4 A5.out).mono ?_); (case side1 => repeat (first | exact (Kd.C_below HR0.out HB.out) | (with_reducible refine Kd.C_alloc ?_ _) | (with_reducible refine Kd.C_drewN ?_ _) | (with_reducible refine Kd.C_drew ?_))); (case side2 => exact HC0.out); (case side3 => repeat (first | exact (Kd.R_reads' HO222.out).2.2 | (with_reducible refine Kd.C_alloc ?_ _) | (with_reducible refine Kd.C_drewN ?_ _) | (with_reducible refine Kd.C_drew ?_))); (case side4 => exact (Kd.R_reads' HO222.out).2.1); rintro e w' ⟨rfl, ⟨nd, rfl⟩⟩; refine ⟨_, rfl, ?_⟩))
      go_ret
      exact ⟨by first | rfl | (simp [errW_none, errW_some] <;> rfl) | (simp [*, errW_none, errW_some] <;> rfl), by repeat (first | (with_reducible first | exact HB.out | apply below_alloc | apply pw_below_drewN | apply below_drew1) | exact HB.out)⟩
    · rw [if_neg c4] at H
      exact absurd H (by simp)
  · rw [if_neg c3] at H
    have c3b0 : decide (a1 < 0) = false := decide_eq_false c3
    clear c3
    replace H := Option.bind_eq_some_iff.mp H
    obtain ⟨t224, A90, H⟩ := H
    replace H : ((gangwayref0_EqBytes.f k l0 t224).bind fun t227 => (some t227)) = some r := H
    have A9 := Aside0.mk A90
    clear A90
    replace H := Option.bind_eq_some_iff.mp H
    obtain ⟨t227, A100, H⟩ := H
    replace H : (some t227) = some r := H
    have A10 := Aside0.mk A100
    clear A100
    obtain rfl := Option.some.inj H
    go_enter Try.func14, Try.ntmps14
    go_wp2_with (first | ((with_reducible refine gate_callee (f := 16) rfl ?_); refine goesL_ (some 12) rfl rfl Try.func16 (by kernel_rfl) rfl #[.int .i64 a1] rfl (by (try simp only [List.map_toArray, List.map_cons, List.map_nil]); first | done | rfl | (simp only [List.length_drop, List.length_take]; rfl)) ?_; (with_reducible refine (gangwaylaw11_sector.calls k a1 t224 _ A9.out).mono ?_); rintro e w11 ⟨v225, rfl, ho0, hb⟩; refine ⟨_, rfl, ?_⟩; have n0_ := Aside0.mk (Kd.R_lower ho0 (below_size (by repeat (first | (with_reducible first | exact HB.out | apply below_alloc | apply pw_below_drewN | apply below_drew1) | exact HB.out)))); have n1_ := Aside0.mk (below_step (by repeat (first | (with_reducible first | exact HB.out | apply below_alloc | apply pw_below_drewN | apply below_drew1) | exact HB.out)) hb); clear HB; have HO226 := n0_; have HB := n1_; clear n0_ n1_; (try clear hb); (try clear hb2); (try clear hk); (try clear hi); (try clear ho0); obtain ⟨Ao12, co12, eo12⟩ := Kd.R_slice HO226.out; subst eo12) | ((with_reducible refine gate_callee (f := 19) rfl ?_); refine goesL_ (some 13) rfl rfl Try.func19 (by kernel_rfl) rfl #[.slice A0 l0.length c0, .slice Ao12 t224.length co12] rfl (by (try simp only [List.map_toArray, List.map_cons, List.map_nil]); first | done | rfl | (simp only [List.length_drop, List.length_take]; rfl)) ?_; (with_reducible refine (gangwayref0_EqBytes.calls k _ _ l0 _ _ t224 t227 _ ?side1 ?side2 ?side3 ?side4 A10.out).mono ?_); (case side1 => repeat (first | exact (Kd.C_below HR0.out HB.out) | (with_reducible refine Kd.C_alloc ?_ _) | (with_reducible refine Kd.C_drewN ?_ _) | (with_reducible refine Kd.C_drew ?_))); (case side2 => exact HC0.out); (case side3 => repeat (first | exact (Kd.R_reads' HO226.out).2.2 | (with_reducible refine Kd.C_alloc ?_ _) | (with_reducible refine Kd.C_drewN ?_ _) | (with_reducible refine Kd.C_drew ?_))); (case side4 => exact (Kd.R_reads' HO226.out).2.1); rintro e w' ⟨rfl, ⟨nd, rfl⟩⟩; refine ⟨_, rfl, ?_⟩))
    go_ret
    exact ⟨by first | rfl | (simp [errW_none, errW_some] <;> rfl) | (simp [*, errW_none, errW_some] <;> rfl), by repeat (first | (with_reducible first | exact HB.out | apply below_alloc | apply pw_below_drewN | apply below_drew1) | exact HB.out)⟩

-- NOT PRINTED: function 17 (gangwaylaw11_wakes)

-- NOT PRINTED: function 3 (gangwaylaw11_DiskSafe)

-- NOT PRINTED: function 4 (gangwaylaw11_DiskOff)

end Go.Proofs.Ytpkhpfgojhojaaa.PLg

namespace Go.Proofs.Ytpkhpfgojhojaaa.PLg
open Go.RowKit Go.Proofs.YtpkhpfgojhojaaaW.PrintWords Go.Proofs.YtpkhpfgojhojaaaW.PrintLast Go.Proofs.YtpkhpfgojhojaaaW.PrintMore
attribute [local go_sem] max2_int min2_int max_two min_two max_three min_three max_four min_four
set_option linter.unusedVariables false
set_option linter.unusedSimpArgs false
-- IMPORT: Derived.Test.@N@WOwn
-- IMPORT: Derived.Test.@N@DBase
theorem up64 {i : Nat} (h : i < 9223372036854775807) : wrap64 ((i : Int) + 1) = ((i + 1 : Nat) : Int) := by unfold wrap64; omega
theorem rd_get (a : List Int) (i : Nat) (h : i < a.length) : rd a (i : Int) = a[i] := by
  unfold rd; rw [Int.toNat_natCast, List.getD_eq_getElem?_getD, List.getElem?_eq_getElem h]; rfl
theorem drop_eq {α : Type} {a b : List α} {i : Nat} (h : i < a.length) (h' : i < b.length) : a.drop i = b.drop i ↔ a[i] = b[i] ∧ a.drop (i + 1) = b.drop (i + 1) := by
  rw [List.drop_eq_getElem_cons h, List.drop_eq_getElem_cons h', List.cons.injEq]
theorem equal_l0 (a b : List Int) (hl : a.length = b.length) (hm : a.length < 9223372036854775807) : ∀ (d i : Nat), i + d = a.length → slices_Equal_byte_byte.l0 (d + 1) a b (a.length : Int) (i : Int) = some (decide (a.drop i = b.drop i))
  | 0, i, h => by
    rw [slices_Equal_byte_byte.l0, if_neg (by omega), List.drop_eq_nil_of_le (by omega), List.drop_eq_nil_of_le (by omega)]; simp
  | d + 1, i, h => by
    rw [slices_Equal_byte_byte.l0, if_pos (by omega), if_pos (by omega), if_pos (by omega), if_pos (by omega)]
    by_cases e : rd a (i : Int) = rd b (i : Int)
    · rw [if_pos e, up64 (by omega), equal_l0 a b hl hm d (i + 1) (by omega)]
      rw [rd_get a i (by omega), rd_get b i (by omega)] at e
      congr 1
      rw [decide_eq_decide, drop_eq (i := i) (by omega) (by omega)]
      exact ⟨fun h => ⟨e, h⟩, And.right⟩
    · rw [if_neg e]
      rw [rd_get a i (by omega), rd_get b i (by omega)] at e
      rw [decide_eq_false (fun h => e ((drop_eq (by omega) (by omega)).1 h).1)]
theorem equal_f (a b : List Int) (hm : a.length < 9223372036854775807) : slices_Equal_byte_byte.f (a.length + 1) a b = some (decide (a = b)) := by
  unfold slices_Equal_byte_byte.f
  by_cases hl : a.length = b.length
  · rw [if_pos (by omega)]
    have := equal_l0 a b hl hm a.length 0 (by omega)
    rw [Int.natCast_zero] at this
    simpa using this
  · rw [if_neg (by omega), decide_eq_false (fun e => hl (by rw [e]))]
theorem eqB_l0 (a b : List Int) (hl : a.length = b.length) (hm : a.length < 9223372036854775807) : ∀ (d i : Nat), i + d = a.length → gangwayref0_EqBytes.l0 (d + 1) a b (i : Int) = some (decide (a.drop i = b.drop i))
  | 0, i, h => by
    rw [gangwayref0_EqBytes.l0, if_neg (by omega), List.drop_eq_nil_of_le (by omega), List.drop_eq_nil_of_le (by omega)]; simp
  | d + 1, i, h => by
    rw [gangwayref0_EqBytes.l0, if_pos (by omega), if_pos (by omega), if_pos (by omega)]
    by_cases e : rd a (i : Int) = rd b (i : Int)
    · rw [if_pos e, up64 (by omega), eqB_l0 a b hl hm d (i + 1) (by omega)]
      rw [rd_get a i (by omega), rd_get b i (by omega)] at e
      congr 1
      rw [decide_eq_decide, drop_eq (i := i) (by omega) (by omega)]
      exact ⟨fun h => ⟨e, h⟩, And.right⟩
    · rw [if_neg e]
      rw [rd_get a i (by omega), rd_get b i (by omega)] at e
      rw [decide_eq_false (fun h => e ((drop_eq (by omega) (by omega)).1 h).1)]
theorem eqB_f (a b : List Int) (hm : a.length < 9223372036854775807) : gangwayref0_EqBytes.f (a.length + 1) a b = some (decide (a = b)) := by
  unfold gangwayref0_EqBytes.f
  by_cases hl : a.length = b.length
  · rw [if_pos (by omega)]
    have := eqB_l0 a b hl hm a.length 0 (by omega)
    rw [Int.natCast_zero] at this
    simpa using this
  · rw [if_neg (by omega), decide_eq_false (fun e => hl (by rw [e]))]
theorem eqB_k (a b : List Int) (hm : a.length < 9223372036854775807) (k : Nat) (hk : a.length + 1 ≤ k) : gangwayref0_EqBytes.f k a b = some (decide (a = b)) :=
  at_rounds (g := fun k => gangwayref0_EqBytes.f k a b) (fun k => gangwayref0_EqBytes.mono _ _ _) hk (eqB_f a b hm)
theorem dk_equal (A0 : Option Addr) (c0 : Nat) (l0 : List Int) (A1 : Option Addr) (c1 : Nat) (l1 : List Int) (w : World) (hr0 : Kd.C (Kd.int .u8) w A0 l0.length l0) (hc0 : l0.length ≤ c0) (hr1 : Kd.C (Kd.int .u8) w A1 l1.length l1) (hc1 : l1.length ≤ c1) (hm : l0.length < 9223372036854775807) :
    Calls Try.prog 51 #[.slice A0 l0.length c0, .slice A1 l1.length c1] w fun e w' => e = .returned (.bool (decide (l0 = l1))) ∧ Drawn0 w w' := slices_Equal_byte_byte.calls _ A0 c0 l0 A1 c1 l1 _ w hr0 hc0 hr1 hc1 (equal_f l0 l1 hm)
end Go.Proofs.Ytpkhpfgojhojaaa.PLg

namespace Go.Proofs.Ytpkhpfgojhojaaa.PLg
open Go.RowKit Go.Proofs.YtpkhpfgojhojaaaW.PrintWords Go.Proofs.YtpkhpfgojhojaaaW.PrintLast Go.Proofs.YtpkhpfgojhojaaaW.PrintMore
attribute [local go_sem] max2_int min2_int max_two min_two max_three min_three max_four min_four
set_option linter.unusedVariables false
set_option linter.unusedSimpArgs false
-- IMPORT: Derived.Test.@N@WOwn
-- IMPORT: Derived.Test.@N@DCopyrow
-- IMPORT: Derived.Test.@N@DSmall
theorem dk_wrote {w w' : World} {base d g c bm mm gs cs : Nat} {D : DataW Unit} {ok : Nat → Prop} {x : Dk} {E' : List Int} (h1 : w.heap[d]? = some (.cells #[.slice (some ⟨gs, 0, none⟩) x.S.length cs, .slice (some ⟨g, 0, none⟩) x.E.length c, .map (some bm), .int .i64 x.n, .bool x.off] 82 (0, 0))) (h2 : (Kd.int .u8).R 5 w base ok (.slice (some ⟨gs, 0, none⟩) x.S.length cs) x.S) (h3 : (Kd.int .u8).R 5 w base ok (.slice (some ⟨g, 0, none⟩) x.E.length c) x.E) (h4 : gs ≠ g)
    (h5 : w.ownsMap Try.prog 3 (plainElem Try.prog 4) bm mm D) (h6 : ∀ i : Int, (Lit.int .i64 i).wf = true → D.atKey (.int .i64 i) (.lit (.bool false)) = .lit (.bool (x.tr i))) (h7 : base ≤ d) (h8 : ok d) (h9 : base ≤ bm) (h10 : ok bm) (h11 : x.Fits)
    (hl : E'.length = x.E.length) (hR : (Kd.int .u8).R 5 w' base ok (.slice (some ⟨g, 0, none⟩) x.E.length c) E') (hg : w.grownBy w' (some g)) : DkAt w' base ok d { x with E := E' } ∧ Kept w w' ok ∧ Below base w w' := by
  have hgd : d ≠ g := fun e => by
    have := Kd.R_ne h3 h1 (by decide)
    exact this (by rw [e]; rfl)
  have hgm : bm ≠ g := fun e => by
    obtain ⟨cur, hcur, _⟩ := R_cur h3
    obtain ⟨es, clock, hm, _⟩ := h5
    rw [e, hcur] at hm
    cases hm
  have hgb : base ≤ g := Kd.R_base h3 g rfl
  refine ⟨⟨gs, cs, g, c, bm, mm, D, ?_, ?_, ?_, h4, ownsMap_move h5 (hg.block bm h5.lt (fun e => hgm (Option.some.inj e))), h6, h7, h8, h9, h10, ?_⟩, ⟨hg.size, fun i hi hn => hg.block i hi (fun e => hn (by rw [Option.some.inj e]; exact h3.1 g rfl))⟩, ⟨hg.os, hg.tape, hg.output, hg.size, fun k hk => ?_⟩⟩
  · show w'.heap[d]? = some (.cells #[_, .slice _ E'.length _, _, _, _] _ _)
    rw [hl]; exact (hg.block d (blk_lt h1) (fun e => hgd (Option.some.inj e))).trans h1
  · exact Kd.R_mono (Kd.R_grown (Kd.R_flat (ok' := fun k => ok k ∧ some k ≠ some g) (fun hd => hd) h2 (fun k hk ho => ⟨ho, by injection hk with hk; subst hk; exact fun e => h4 (Option.some.inj e)⟩)) hg (fun k hk => hk.2)) (fun k hk => hk.1)
  · show (Kd.int .u8).R _ w' base ok (.slice _ E'.length _) E'
    rw [hl]; exact hR
  · exact ⟨h11.1.trans hl.symm, by show E'.length % 64 = 0; rw [hl]; exact h11.2.1, by show 64 ≤ E'.length; rw [hl]; exact h11.2.2.1, by show E'.length ≤ _; rw [hl]; exact h11.2.2.2⟩
  · by_cases hlt : k < w.heap.size
    · exact hg.block k hlt (fun e => by have := Option.some.inj e; omega)
    · have := Kd.R_lt h3 g rfl
      omega
set_option maxHeartbeats 2000000 in
set_option maxRecDepth 100000 in
theorem dk_write1 (d p1 p2 p3 i c : Nat) (B : Option Addr) (b : List Int) (w : World) (base : Nat) (ok : Nat → Prop) (x : Dk) (h : DkAt w base ok d x) (hi : i * 64 + 64 ≤ x.E.length) (hC : (Kd.int .u8).C w B 64 b)
    (hq1 : w.cell? ⟨p1, 0, none⟩ = some (.pointer (some ⟨d, 0, none⟩))) (hq2 : w.cell? ⟨p2, 0, none⟩ = some (.int .i64 (i : Int))) (hq3 : w.cell? ⟨p3, 0, none⟩ = some (.slice B 64 c)) :
    Calls Try.prog 53 #[.pointer (some ⟨p1, 0, none⟩), .pointer (some ⟨p2, 0, none⟩), .pointer (some ⟨p3, 0, none⟩)] w fun e w' => e = .returned (.tuple #[]) ∧ DkAt w' base ok d { x with E := splice x.E (i * 64) b } ∧ Kept w w' ok ∧ Below base w w' := by
  have HD := Aside0.mk h
  obtain ⟨gs, cs, ge, ce, bm, mm, D, h1, h2, h3, h4, h5, h6, h7, h8, h9, h10, h11⟩ := h
  have hct := (blk_cell h1 1).trans rfl
  have HER := Aside0.mk h3
  have HI := Aside0.mk hi
  have HC := Aside0.mk hC
  have HEL := Aside0.mk (Kd.R_reads' h3).2.1
  have HM : Aside0 (x.E.length ≤ 140737488355328) := ⟨by have := h11.2.2.2; omega⟩
  have HALL := Aside0.mk (fun (w' : World) (hR : (Kd.int .u8).R 5 w' base ok (.slice (some ⟨ge, 0, none⟩) x.E.length ce) (splice x.E (i * 64) b)) (hg : w.grownBy w' (some ge)) => dk_wrote h1 h2 h3 h4 h5 h6 h7 h8 h9 h10 h11 (E' := splice x.E (i * 64) b) (length_splice _ _ _ (by have := hC.1; omega)) hR hg)
  clear h1 h2 h3 h4 h5 h6 h7 h8 h9 h10 h11 hi hC HD
  have hds := Try.underlying82
  go_enter Try.func53, Try.ntmps53
  refine start_ (n := 8) (S := fun w' => w'.cell? ⟨p1, 0, none⟩ = some (.pointer (some ⟨d, 0, none⟩)) ∧ w'.cell? ⟨d, 1, none⟩ = some (.slice (some ⟨ge, 0, none⟩) x.E.length ce) ∧ w'.cell? ⟨p2, 0, none⟩ = some (.int .i64 (i : Int)) ∧ w'.cell? ⟨p3, 0, none⟩ = some (.slice B 64 c)) (ds := [7]) #[false, false, false, false, false, false, false, false] (by kernel_rfl) rfl rfl ⟨hq1, hct, hq2, hq3⟩ (fun hHeld => ?_)
  refine take_ (i := 0) (N := some 3) (v := ?_) (a' := ?_) #[true, false, false, false, false, false, false, false] rfl rfl (by kernel_rfl) (fun _ _ _ h => h) (Or.inl ⟨by rfl, ?_⟩) hHeld ?_ ?_
  rotate_left
  · rintro w' ⟨s0, s1, s2, s3⟩
    go_simp
    with_reducible rfl
  rotate_left
  · simp only [Act.put, List.setIfInBounds_toArray, List.set_cons_zero, List.set_cons_succ, i64_w, i32_w]
    rfl
  refine pure_ (i := 1) (N := some 4) (v := ?_) (a' := ?_) #[true, true, false, false, false, false, false, false] rfl rfl (by kernel_rfl) (fun _ _ _ h => h) (Or.inl ⟨by rfl, ?_⟩) ?_ ?_
  rotate_left
  · intro w'
    go_simp
    with_reducible rfl
  rotate_left
  · simp only [Act.put, List.setIfInBounds_toArray, List.set_cons_zero, List.set_cons_succ, i64_w, i32_w]
    rfl
  refine pure_ (i := 2) (N := some 5) (v := ?_) (a' := ?_) #[true, true, true, false, false, false, false, false] rfl rfl (by kernel_rfl) (fun _ _ _ h => h) (Or.inl ⟨by rfl, ?_⟩) ?_ ?_
  rotate_left
  · intro w'
    go_simp
    with_reducible rfl
  rotate_left
  · simp only [Act.put, List.setIfInBounds_toArray, List.set_cons_zero, List.set_cons_succ, i64_w, i32_w]
    rfl
  refine take_ (i := 3) (N := some 6) (v := ?_) (a' := ?_) #[true, true, true, true, false, false, false, false] rfl rfl (by kernel_rfl) (fun _ _ _ h => h) (Or.inl ⟨by rfl, ?_⟩) hHeld ?_ ?_
  rotate_left
  · rintro w' ⟨s0, s1, s2, s3⟩
    go_simp
    with_reducible rfl
  rotate_left
  · simp only [Act.put, List.setIfInBounds_toArray, List.set_cons_zero, List.set_cons_succ, i64_w, i32_w]
    rfl
  refine take_ (i := 4) (N := some 7) (v := ?_) (a' := ?_) #[true, true, true, true, true, false, false, false] rfl rfl (by kernel_rfl) (fun _ _ _ h => h) (Or.inl ⟨by rfl, ?_⟩) hHeld ?_ ?_
  rotate_left
  · rintro w' ⟨s0, s1, s2, s3⟩
    go_simp
    with_reducible rfl
  rotate_left
  · simp only [Act.put, List.setIfInBounds_toArray, List.set_cons_zero, List.set_cons_succ, i64_w, i32_w]
    rfl
  refine take_ (i := 6) (N := some 9) (v := ?_) (a' := ?_) #[true, true, true, true, true, false, true, false] rfl rfl (by kernel_rfl) (fun _ _ _ h => h) (Or.inl ⟨by rfl, ?_⟩) hHeld ?_ ?_
  rotate_left
  · rintro w' ⟨s0, s1, s2, s3⟩
    go_simp
    with_reducible rfl
  rotate_left
  · simp only [Act.put, List.setIfInBounds_toArray, List.set_cons_zero, List.set_cons_succ, i64_w, i32_w]
    rfl
  refine one_ (i := 5) (N := some 8) #[true, true, true, true, true, true, true, false] rfl rfl (by kernel_rfl) (by decide) (fun K hK => ?_)
  refine goes_ Try.func52 (by kernel_rfl) rfl #[.slice (some ⟨ge, 0, none⟩) x.E.length ce, .int .i64 (i : Int)] (by rfl) rfl rfl (by simp only [List.map_toArray, List.map_cons, List.map_nil]; rfl) ?_
  with_reducible refine (dk_at ge x.E.length ce i _ HI.out HEL.out HM.out).mono ?_
  rintro e w3 ⟨rfl, rfl⟩
  refine ⟨_, rfl, ?_⟩
  refine hK.out _ _ ⟨hq1, hct, hq2, hq3⟩ (fun hHeld => ?_)
  clear hK K
  refine norm_ (a' := ?_) ?_ ?_
  rotate_left
  · show Act.put _ (some 8) _ = _
    simp only [Act.put, List.setIfInBounds_toArray, List.set_cons_zero, List.set_cons_succ, i64_w, i32_w]
    rfl
  refine last_ (i := 7) (N := some 10) #[true, true, true, true, true, true, true, true] rfl rfl (by kernel_rfl) (by decide) (fun K hK => ?_)
  refine step_copy_R rfl (.tmp 8) (.tmp 9) 30 30 rfl 5 Try.underlying30 (by kernel_rfl) ge (i * 64) x.E.length ce 64 (ce - i * 64) 64 c B .u8 base ok x.E b rfl rfl HER.out HC.out (by decide) (by decide) HI.out ?_
  intro w4 HR4 HG4
  refine hK.out _ _ ?_
  clear hK K
  refine norm_ (a' := ?_) ?_ ?_
  rotate_left
  · show Act.put _ (some 10) _ = _
    simp only [Act.put, List.setIfInBounds_toArray, List.set_cons_zero, List.set_cons_succ, i64_w, i32_w]
    rfl
  refine done_ (by kernel_rfl) ?_

  go_end0
  exact ⟨rfl, HALL.out _ HR4.out ⟨HG4.out.os, HG4.out.tape, HG4.out.output, HG4.out.size, HG4.out.block⟩⟩

end Go.Proofs.Ytpkhpfgojhojaaa.PLg

namespace Go.Proofs.Ytpkhpfgojhojaaa.PLg
open Go.RowKit Go.Proofs.YtpkhpfgojhojaaaW.PrintWords Go.Proofs.YtpkhpfgojhojaaaW.PrintLast Go.Proofs.YtpkhpfgojhojaaaW.PrintMore
attribute [local go_sem] max2_int min2_int max_two min_two max_three min_three max_four min_four
set_option linter.unusedVariables false
set_option linter.unusedSimpArgs false
-- IMPORT: Derived.Test.@N@WOwn
-- IMPORT: Derived.Test.@N@DCopyrow
-- IMPORT: Derived.Test.@N@DSmall
-- IMPORT: Derived.Test.@N@DKeep
-- IMPORT: Derived.Test.@N@DWrite1
section
variable {w w' : World} {base d : Nat} {ok : Nat → Prop} {x : Dk}
theorem DkAt.cells (h : DkAt w base ok d x) : w.cell? ⟨d, 3, none⟩ = some (.int .i64 x.n) ∧ w.cell? ⟨d, 4, none⟩ = some (.bool x.off) ∧ w.frozen? ⟨d, 3, none⟩ = false ∧ w.frozen? ⟨d, 4, none⟩ = false := by
  obtain ⟨gs, cs, ge, ce, bm, mm, D, h1, h2, h3, h4, h5, h6, h7, h8, h9, h10, h11⟩ := h
  exact ⟨(blk_cell h1 3).trans rfl, (blk_cell h1 4).trans rfl, blk_frozen h1 3, blk_frozen h1 4⟩
theorem DkAt.asked (h : DkAt w base ok d x) : ∃ bm, w.cell? ⟨d, 2, none⟩ = some (.map (some bm)) ∧ ∀ i : Int, (Lit.int .i64 i).wf = true → (Instr.lookup 80 (.map (some bm)) (.int .i64 i) false).run Try.prog w = .ok (.bool (x.tr i)) w := by
  obtain ⟨gs, cs, ge, ce, bm, mm, D, h1, h2, h3, h4, h5, h6, h7, h8, h9, h10, h11⟩ := h
  exact ⟨bm, (blk_cell h1 2).trans rfl, fun i hi => asked_run h5 hi (h6 i hi)⟩
theorem DkAt.set_n (h : DkAt w base ok d x) (m : Int) : DkAt (w.setCell ⟨d, 3, none⟩ (.int .i64 m)) base ok d { x with n := m } := by
  obtain ⟨gs, cs, ge, ce, bm, mm, D, h1, h2, h3, h4, h5, h6, h7, h8, h9, h10, h11⟩ := h
  refine ⟨gs, cs, ge, ce, bm, mm, D, blk_set h1 3 _, Kd.R_set h2 h1 (by decide) 3 _, Kd.R_set h3 h1 (by decide) 3 _, h4, ownsMap_move h5 (Below.heap_setCell _ _ _ _ ?_), h6, h7, h8, h9, h10, h11⟩
  rintro rfl
  obtain ⟨es, clock, hm, _⟩ := h5
  rw [h1] at hm
  cases hm
theorem DkAt.set_off (h : DkAt w base ok d x) (m : Bool) : DkAt (w.setCell ⟨d, 4, none⟩ (.bool m)) base ok d { x with off := m } := by
  obtain ⟨gs, cs, ge, ce, bm, mm, D, h1, h2, h3, h4, h5, h6, h7, h8, h9, h10, h11⟩ := h
  refine ⟨gs, cs, ge, ce, bm, mm, D, blk_set h1 4 _, Kd.R_set h2 h1 (by decide) 4 _, Kd.R_set h3 h1 (by decide) 4 _, h4, ownsMap_move h5 (Below.heap_setCell _ _ _ _ ?_), h6, h7, h8, h9, h10, h11⟩
  rintro rfl
  obtain ⟨es, clock, hm, _⟩ := h5
  rw [h1] at hm
  cases hm
theorem DkAt.ok_d (h : DkAt w base ok d x) : ok d ∧ base ≤ d := by
  obtain ⟨gs, cs, ge, ce, bm, mm, D, h1, h2, h3, h4, h5, h6, h7, h8, h9, h10, h11⟩ := h
  exact ⟨h8, h7⟩
end
/-- A stroke: what is done with it (E', S': when it goes); who is told what. -/
def Dk.strokeW (x : Dk) (E' : List Int) : Dk := if x.off = true then { x with n := wrap64 (x.n + 1) } else { x with n := wrap64 (x.n + 1), off := x.tr (wrap64 (x.n + 1)), E := E' }
def Dk.told (x : Dk) : Int := if x.off = true then 103 else if x.tr (wrap64 (x.n + 1)) = true then 103 else 0
set_option maxHeartbeats 4000000 in
set_option maxRecDepth 100000 in
theorem dk_stroke_w (d : Nat) (p1 p2 p3 i c : Nat) (B : Option Addr) (b : List Int) (w : World) (base : Nat) (ok : Nat → Prop) (x : Dk) (h : DkAt w base ok d x) (hi : i * 64 + 64 ≤ x.E.length) (hC : (Kd.int .u8).C w B 64 b) (hq1 : w.cell? ⟨p1, 0, none⟩ = some (.pointer (some ⟨d, 0, none⟩))) (hq2 : w.cell? ⟨p2, 0, none⟩ = some (.int .i64 (i : Int))) (hq3 : w.cell? ⟨p3, 0, none⟩ = some (.slice B 64 c)) (hB : ∀ ad, B = some ad → ¬ ok ad.block) (hp : ¬ ok p1 ∧ ¬ ok p2 ∧ ¬ ok p3) :
    Calls Try.prog 50 #[.pointer (some ⟨d, 0, none⟩), .func (.func 53) #[] #[.pointer (some ⟨p1, 0, none⟩), .pointer (some ⟨p2, 0, none⟩), .pointer (some ⟨p3, 0, none⟩)], .bool true] w fun e w' => e = .returned (.int .i64 x.told) ∧ DkAt w' base ok d (x.strokeW (splice x.E (i * 64) b)) ∧ Kept w w' ok ∧ Below base w w' := by
  obtain ⟨nn, hnn⟩ : ∃ nn, nn = wrap64 (x.n + 1) := ⟨_, rfl⟩
  obtain ⟨c, hc⟩ : ∃ c, c = x.tr nn := ⟨_, rfl⟩
  have HWF : Aside0 ((Lit.int .i64 nn).wf = true) := ⟨by rw [hnn]; exact wrap64_wf _⟩
  have H1 := Aside0.mk (h.set_n nn)
  have HK1 := Aside0.mk ((Kept.refl w ok).setCell (p := ⟨d, 3, none⟩) (.inl h.ok_d.1) (.int .i64 nn))
  have HB1 := Aside0.mk ((Below.refl base w).setCell (p := ⟨d, 3, none⟩) h.ok_d.2 (.int .i64 nn))
  have HOK := Aside0.mk h.ok_d
  obtain ⟨hy3, hy4, hg3, hg4⟩ := h.cells
  have HNN := Aside0.mk hnn
  have hnx := hnn.symm
  have HCC := Aside0.mk hc
  have HI := Aside0.mk hi
  have HC := Aside0.mk hC
  have HQ1 := Aside0.mk hq1
  have HQ2 := Aside0.mk hq2
  have HQ3 := Aside0.mk hq3
  have HP := Aside0.mk hp
  have HBO := Aside0.mk hB
  clear hi hC hq1 hq2 hq3 hp hB
  clear h hnn hc
  have hds := Try.underlying82
  cases ho : x.off with
  | true =>
    rw [ho] at hy4
    have HO := Aside0.mk ho
    clear ho
    go_enter Try.func50, Try.ntmps50
    go_wp2
    go_ret
    refine ⟨congrArg (fun q => Ending.returned (.int .i64 q)) (show (103 : Int) = x.told by unfold Dk.told; rw [if_pos HO.out]), ?_, HK1.out, HB1.out⟩
    have := H1.out
    rw [HNN.out] at this
    unfold Dk.strokeW
    rw [if_pos HO.out]
    rw [HNN.out]
    exact this
  | false =>
    rw [ho] at hy4
    have HO := Aside0.mk ho
    clear ho
    go_enter Try.func50, Try.ntmps50
    go_upto_region 4 with (fail)
    have H2 := Aside0.mk (H1.out.below (below_drew (Below.refl _ _)))
    obtain ⟨bm, hz2, hlk⟩ := H2.out.asked
    obtain ⟨hz3, hz4, hf3, hf4⟩ := H2.out.cells
    have HLK : Aside0 ((Instr.lookup 80 (.map (some bm)) (.int .i64 nn) false).run Try.prog (w.setCell ⟨d, 3, none⟩ (.int .i64 nn)).drew = .ok (.bool c) (w.setCell ⟨d, 3, none⟩ (.int .i64 nn)).drew) := ⟨by rw [HCC.out]; exact hlk nn HWF.out⟩
    have hz4' : (w.setCell ⟨d, 3, none⟩ (.int .i64 nn)).drew.cell? ⟨d, 4, none⟩ = some (.bool x.off) := hz4
    clear hlk hz4 hy3 hy4 hg3 hg4
    refine start_ (n := 13) (S := fun w' => w'.cell? ⟨d, 2, none⟩ = some (.map (some bm)) ∧ w'.cell? ⟨d, 3, none⟩ = some (.int .i64 nn) ∧ (Instr.lookup 80 (.map (some bm)) (.int .i64 nn) false).run Try.prog w' = .ok (.bool c) w') (ds := [12]) #[false, false, false, false, false, false, false, false, false, false, false, false, false] (by kernel_rfl) rfl rfl ⟨hz2, hz3, HLK.out⟩ (fun hHeld => ?_)
    refine pure_ (i := 0) (N := some 18) (v := ?_) (a' := ?_) #[true, false, false, false, false, false, false, false, false, false, false, false, false] rfl rfl (by kernel_rfl) (fun _ _ _ h => h) (Or.inl ⟨by rfl, ?_⟩) ?_ ?_
    rotate_left
    · intro w'
      go_simp
      with_reducible rfl
    rotate_left
    · simp only [Act.put, List.setIfInBounds_toArray, List.set_cons_zero, List.set_cons_succ, i64_w, i32_w]
      rfl
    refine pure_ (i := 1) (N := some 19) (v := ?_) (a' := ?_) #[true, true, false, false, false, false, false, false, false, false, false, false, false] rfl rfl (by kernel_rfl) (fun _ _ _ h => h) (Or.inl ⟨by rfl, ?_⟩) ?_ ?_
    rotate_left
    · intro w'
      go_simp
      with_reducible rfl
    rotate_left
    · simp only [Act.put, List.setIfInBounds_toArray, List.set_cons_zero, List.set_cons_succ, i64_w, i32_w]
      rfl
    refine pure_ (i := 2) (N := some 20) (v := ?_) (a' := ?_) #[true, true, true, false, false, false, false, false, false, false, false, false, false] rfl rfl (by kernel_rfl) (fun _ _ _ h => h) (Or.inl ⟨by rfl, ?_⟩) ?_ ?_
    rotate_left
    · intro w'
      go_simp
      with_reducible rfl
    rotate_left
    · simp only [Act.put, List.setIfInBounds_toArray, List.set_cons_zero, List.set_cons_succ, i64_w, i32_w]
      rfl
    refine pure_ (i := 3) (N := some 21) (v := ?_) (a' := ?_) #[true, true, true, true, false, false, false, false, false, false, false, false, false] rfl rfl (by kernel_rfl) (fun _ _ _ h => h) (Or.inl ⟨by rfl, ?_⟩) ?_ ?_
    rotate_left
    · intro w'
      go_simp
      with_reducible rfl
    rotate_left
    · simp only [Act.put, List.setIfInBounds_toArray, List.set_cons_zero, List.set_cons_succ, i64_w, i32_w]
      rfl
    refine pure_ (i := 5) (N := some 23) (v := ?_) (a' := ?_) #[true, true, true, true, false, true, false, false, false, false, false, false, false] rfl rfl (by kernel_rfl) (fun _ _ _ h => h) (Or.inl ⟨by rfl, ?_⟩) ?_ ?_
    rotate_left
    · intro w'
      go_simp
      with_reducible rfl
    rotate_left
    · simp only [Act.put, List.setIfInBounds_toArray, List.set_cons_zero, List.set_cons_succ, i64_w, i32_w]
      rfl
    refine pure_ (i := 6) (N := some 24) (v := ?_) (a' := ?_) #[true, true, true, true, false, true, true, false, false, false, false, false, false] rfl rfl (by kernel_rfl) (fun _ _ _ h => h) (Or.inl ⟨by rfl, ?_⟩) ?_ ?_
    rotate_left
    · intro w'
      go_simp
      with_reducible rfl
    rotate_left
    · simp only [Act.put, List.setIfInBounds_toArray, List.set_cons_zero, List.set_cons_succ, i64_w, i32_w]
      rfl
    refine pure_ (i := 7) (N := some 25) (v := ?_) (a' := ?_) #[true, true, true, true, false, true, true, true, false, false, false, false, false] rfl rfl (by kernel_rfl) (fun _ _ _ h => h) (Or.inl ⟨by rfl, ?_⟩) ?_ ?_
    rotate_left
    · intro w'
      go_simp
      with_reducible rfl
    rotate_left
    · simp only [Act.put, List.setIfInBounds_toArray, List.set_cons_zero, List.set_cons_succ, i64_w, i32_w]
      rfl
    refine take_ (i := 4) (N := some 22) (v := ?_) (a' := ?_) #[true, true, true, true, true, true, true, true, false, false, false, false, false] rfl rfl (by kernel_rfl) (fun _ _ _ h => h) (Or.inl ⟨by rfl, ?_⟩) hHeld ?_ ?_
    rotate_left
    · rintro w' ⟨s0, s1, s2⟩
      go_simp
      with_reducible rfl
    rotate_left
    · simp only [Act.put, List.setIfInBounds_toArray, List.set_cons_zero, List.set_cons_succ, i64_w, i32_w]
      rfl
    refine take_ (i := 8) (N := some 26) (v := ?_) (a' := ?_) #[true, true, true, true, true, true, true, true, true, false, false, false, false] rfl rfl (by kernel_rfl) (fun _ _ _ h => h) (Or.inl ⟨by rfl, ?_⟩) hHeld ?_ ?_
    rotate_left
    · rintro w' ⟨s0, s1, s2⟩
      go_simp
      with_reducible rfl
    rotate_left
    · simp only [Act.put, List.setIfInBounds_toArray, List.set_cons_zero, List.set_cons_succ, i64_w, i32_w]
      rfl
    refine take_ (i := 9) (N := some 27) (v := ?_) (a' := ?_) #[true, true, true, true, true, true, true, true, true, true, false, false, false] rfl rfl (by kernel_rfl) (fun _ _ _ h => h) (Or.inl ⟨by rfl, ?_⟩) hHeld ?_ ?_
    rotate_left
    · rintro w' ⟨s0, s1, s2⟩
      go_simp
      with_reducible rfl
    rotate_left
    · simp only [Act.put, List.setIfInBounds_toArray, List.set_cons_zero, List.set_cons_succ, i64_w, i32_w]
      rfl
    refine pure_ (i := 10) (N := some 28) (v := ?_) (a' := ?_) #[true, true, true, true, true, true, true, true, true, true, true, false, false] rfl rfl (by kernel_rfl) (fun _ _ _ h => h) (Or.inl ⟨by rfl, ?_⟩) ?_ ?_
    rotate_left
    · intro w'
      go_simp
      with_reducible rfl
    rotate_left
    · simp only [Act.put, List.setIfInBounds_toArray, List.set_cons_zero, List.set_cons_succ, i64_w, i32_w]
      rfl
    refine pure_ (i := 11) (N := some 29) (v := ?_) (a' := ?_) #[true, true, true, true, true, true, true, true, true, true, true, true, false] rfl rfl (by kernel_rfl) (fun _ _ _ h => h) (Or.inl ⟨by rfl, ?_⟩) ?_ ?_
    rotate_left
    · intro w'
      go_simp
      with_reducible rfl
    rotate_left
    · simp only [Act.put, List.setIfInBounds_toArray, List.set_cons_zero, List.set_cons_succ, i64_w, i32_w]
      rfl
    refine last_ (i := 12) (N := none) #[true, true, true, true, true, true, true, true, true, true, true, true, true] rfl rfl (by kernel_rfl) (by decide) (fun K hK => ?_)
    refine skip_ (w1 := ?_) (by rfl) rfl ?_ ?_
    rotate_left
    · go_simp
      rfl
    refine hK.out _ _ ?_
    clear hK K
    refine done_ (by kernel_rfl) ?_

    have H3 := Aside0.mk ((H1.out.set_off c).below (below_drew (Below.refl _ _)))
    have HK3 := Aside0.mk (Kept.drew (HK1.out.setCell (p := ⟨d, 4, none⟩) (.inl HOK.out.1) (.bool c)))
    have HB3 := Aside0.mk (below_drew (HB1.out.setCell (p := ⟨d, 4, none⟩) HOK.out.2 (.bool c)))
    obtain ⟨_, hv4, _, _⟩ := H3.out.cells
    have hv5 : ((w.setCell ⟨d, 3, none⟩ (.int .i64 nn)).setCell ⟨d, 4, none⟩ (.bool c)).cell? ⟨d, 4, none⟩ = some (.bool c) := hv4
    clear hz2 hz3 hz4' hf3 hf4
    cases c
    all_goals
      go_wp2_with (first | (go_at_call 53; refine (dk_write1 d p1 p2 p3 i _ B b _ base ok _ H3.out HI.out (C_keptB HC.out HK3.out HBO.out) (cell_kept HQ1.out HK3.out HP.out.1) (cell_kept HQ2.out HK3.out HP.out.2.1) (cell_kept HQ3.out HK3.out HP.out.2.2)).mono ?_; rintro e' w4 ⟨rfl, hd4, hk4, hb4⟩; have HD4 := Aside0.mk hd4; have HK4 := Aside0.mk hk4; have HB4 := Aside0.mk hb4; obtain ⟨_, hu4, _, _⟩ := HD4.out.cells; clear hd4 hk4 hb4))
      go_ret
      refine ⟨congrArg (fun q => Ending.returned (.int .i64 q)) (show (_ : Int) = x.told by unfold Dk.told; rw [if_neg (by rw [HO.out]; decide), ← HNN.out, ← HCC.out]; rfl), ?_, HK3.out.then_ HK4.out (fun k hk => .inl hk), HB3.out.trans HB4.out⟩
      have := HD4.out
      unfold Dk.strokeW
      rw [if_neg (by rw [HO.out]; decide), ← HNN.out, ← HCC.out]
      exact this
set_option maxHeartbeats 4000000 in
set_option maxRecDepth 100000 in
theorem dk_stroke_k (d : Nat) (w : World) (base : Nat) (ok : Nat → Prop) (x : Dk) (h : DkAt w base ok d x) (hbs : base ≤ w.heap.size) :
    Calls Try.prog 50 #[.pointer (some ⟨d, 0, none⟩), .func (.func 49) #[.pointer (some ⟨d, 0, none⟩)] #[], .bool false] w fun e w' => e = .returned (.int .i64 x.flush.2) ∧ DkAt w' base (fun k => ok k ∨ w.heap.size ≤ k) d x.flush.1 ∧ Kept w w' ok ∧ Below base w w' := by
  obtain ⟨nn, hnn⟩ : ∃ nn, nn = wrap64 (x.n + 1) := ⟨_, rfl⟩
  obtain ⟨c, hc⟩ : ∃ c, c = x.tr nn := ⟨_, rfl⟩
  have HWF : Aside0 ((Lit.int .i64 nn).wf = true) := ⟨by rw [hnn]; exact wrap64_wf _⟩
  have H1 := Aside0.mk (h.set_n nn)
  have HK1 := Aside0.mk ((Kept.refl w ok).setCell (p := ⟨d, 3, none⟩) (.inl h.ok_d.1) (.int .i64 nn))
  have HB1 := Aside0.mk ((Below.refl base w).setCell (p := ⟨d, 3, none⟩) h.ok_d.2 (.int .i64 nn))
  have HOK := Aside0.mk h.ok_d
  obtain ⟨hy3, hy4, hg3, hg4⟩ := h.cells
  have HNN := Aside0.mk hnn
  have hnx := hnn.symm
  have HCC := Aside0.mk hc
  have HBS := Aside0.mk hbs
  clear hbs
  clear h hnn hc
  have hds := Try.underlying82
  cases ho : x.off with
  | true =>
    rw [ho] at hy4
    have HO := Aside0.mk ho
    clear ho
    go_enter Try.func50, Try.ntmps50
    go_wp2
    go_ret
    refine ⟨congrArg (fun q => Ending.returned (.int .i64 q)) (show (103 : Int) = x.flush.2 by unfold Dk.flush; rw [if_pos HO.out]), ?_, HK1.out, HB1.out⟩
    have := H1.out
    rw [HNN.out] at this
    unfold Dk.flush
    rw [if_pos HO.out, HNN.out]
    exact this.mono (fun k hk => .inl hk)
  | false =>
    rw [ho] at hy4
    have HO := Aside0.mk ho
    clear ho
    go_enter Try.func50, Try.ntmps50
    go_upto_region 4 with (fail)
    have H2 := Aside0.mk (H1.out.below (below_drew (Below.refl _ _)))
    obtain ⟨bm, hz2, hlk⟩ := H2.out.asked
    obtain ⟨hz3, hz4, hf3, hf4⟩ := H2.out.cells
    have HLK : Aside0 ((Instr.lookup 80 (.map (some bm)) (.int .i64 nn) false).run Try.prog (w.setCell ⟨d, 3, none⟩ (.int .i64 nn)).drew = .ok (.bool c) (w.setCell ⟨d, 3, none⟩ (.int .i64 nn)).drew) := ⟨by rw [HCC.out]; exact hlk nn HWF.out⟩
    have hz4' : (w.setCell ⟨d, 3, none⟩ (.int .i64 nn)).drew.cell? ⟨d, 4, none⟩ = some (.bool x.off) := hz4
    clear hlk hz4 hy3 hy4 hg3 hg4
    refine start_ (n := 13) (S := fun w' => w'.cell? ⟨d, 2, none⟩ = some (.map (some bm)) ∧ w'.cell? ⟨d, 3, none⟩ = some (.int .i64 nn) ∧ (Instr.lookup 80 (.map (some bm)) (.int .i64 nn) false).run Try.prog w' = .ok (.bool c) w') (ds := [12]) #[false, false, false, false, false, false, false, false, false, false, false, false, false] (by kernel_rfl) rfl rfl ⟨hz2, hz3, HLK.out⟩ (fun hHeld => ?_)
    refine pure_ (i := 0) (N := some 18) (v := ?_) (a' := ?_) #[true, false, false, false, false, false, false, false, false, false, false, false, false] rfl rfl (by kernel_rfl) (fun _ _ _ h => h) (Or.inl ⟨by rfl, ?_⟩) ?_ ?_
    rotate_left
    · intro w'
      go_simp
      with_reducible rfl
    rotate_left
    · simp only [Act.put, List.setIfInBounds_toArray, List.set_cons_zero, List.set_cons_succ, i64_w, i32_w]
      rfl
    refine pure_ (i := 1) (N := some 19) (v := ?_) (a' := ?_) #[true, true, false, false, false, false, false, false, false, false, false, false, false] rfl rfl (by kernel_rfl) (fun _ _ _ h => h) (Or.inl ⟨by rfl, ?_⟩) ?_ ?_
    rotate_left
    · intro w'
      go_simp
      with_reducible rfl
    rotate_left
    · simp only [Act.put, List.setIfInBounds_toArray, List.set_cons_zero, List.set_cons_succ, i64_w, i32_w]
      rfl
    refine pure_ (i := 2) (N := some 20) (v := ?_) (a' := ?_) #[true, true, true, false, false, false, false, false, false, false, false, false, false] rfl rfl (by kernel_rfl) (fun _ _ _ h => h) (Or.inl ⟨by rfl, ?_⟩) ?_ ?_
    rotate_left
    · intro w'
      go_simp
      with_reducible rfl
    rotate_left
    · simp only [Act.put, List.setIfInBounds_toArray, List.set_cons_zero, List.set_cons_succ, i64_w, i32_w]
      rfl
    refine pure_ (i := 3) (N := some 21) (v := ?_) (a' := ?_) #[true, true, true, true, false, false, false, false, false, false, false, false, false] rfl rfl (by kernel_rfl) (fun _ _ _ h => h) (Or.inl ⟨by rfl, ?_⟩) ?_ ?_
    rotate_left
    · intro w'
      go_simp
      with_reducible rfl
    rotate_left
    · simp only [Act.put, List.setIfInBounds_toArray, List.set_cons_zero, List.set_cons_succ, i64_w, i32_w]
      rfl
    refine pure_ (i := 5) (N := some 23) (v := ?_) (a' := ?_) #[true, true, true, true, false, true, false, false, false, false, false, false, false] rfl rfl (by kernel_rfl) (fun _ _ _ h => h) (Or.inl ⟨by rfl, ?_⟩) ?_ ?_
    rotate_left
    · intro w'
      go_simp
      with_reducible rfl
    rotate_left
    · simp only [Act.put, List.setIfInBounds_toArray, List.set_cons_zero, List.set_cons_succ, i64_w, i32_w]
      rfl
    refine pure_ (i := 6) (N := some 24) (v := ?_) (a' := ?_) #[true, true, true, true, false, true, true, false, false, false, false, false, false] rfl rfl (by kernel_rfl) (fun _ _ _ h => h) (Or.inl ⟨by rfl, ?_⟩) ?_ ?_
    rotate_left
    · intro w'
      go_simp
      with_reducible rfl
    rotate_left
    · simp only [Act.put, List.setIfInBounds_toArray, List.set_cons_zero, List.set_cons_succ, i64_w, i32_w]
      rfl
    refine pure_ (i := 7) (N := some 25) (v := ?_) (a' := ?_) #[true, true, true, true, false, true, true, true, false, false, false, false, false] rfl rfl (by kernel_rfl) (fun _ _ _ h => h) (Or.inl ⟨by rfl, ?_⟩) ?_ ?_
    rotate_left
    · intro w'
      go_simp
      with_reducible rfl
    rotate_left
    · simp only [Act.put, List.setIfInBounds_toArray, List.set_cons_zero, List.set_cons_succ, i64_w, i32_w]
      rfl
    refine take_ (i := 4) (N := some 22) (v := ?_) (a' := ?_) #[true, true, true, true, true, true, true, true, false, false, false, false, false] rfl rfl (by kernel_rfl) (fun _ _ _ h => h) (Or.inl ⟨by rfl, ?_⟩) hHeld ?_ ?_
    rotate_left
    · rintro w' ⟨s0, s1, s2⟩
      go_simp
      with_reducible rfl
    rotate_left
    · simp only [Act.put, List.setIfInBounds_toArray, List.set_cons_zero, List.set_cons_succ, i64_w, i32_w]
      rfl
    refine take_ (i := 8) (N := some 26) (v := ?_) (a' := ?_) #[true, true, true, true, true, true, true, true, true, false, false, false, false] rfl rfl (by kernel_rfl) (fun _ _ _ h => h) (Or.inl ⟨by rfl, ?_⟩) hHeld ?_ ?_
    rotate_left
    · rintro w' ⟨s0, s1, s2⟩
      go_simp
      with_reducible rfl
    rotate_left
    · simp only [Act.put, List.setIfInBounds_toArray, List.set_cons_zero, List.set_cons_succ, i64_w, i32_w]
      rfl
    refine take_ (i := 9) (N := some 27) (v := ?_) (a' := ?_) #[true, true, true, true, true, true, true, true, true, true, false, false, false] rfl rfl (by kernel_rfl) (fun _ _ _ h => h) (Or.inl ⟨by rfl, ?_⟩) hHeld ?_ ?_
    rotate_left
    · rintro w' ⟨s0, s1, s2⟩
      go_simp
      with_reducible rfl
    rotate_left
    · simp only [Act.put, List.setIfInBounds_toArray, List.set_cons_zero, List.set_cons_succ, i64_w, i32_w]
      rfl
    refine pure_ (i := 10) (N := some 28) (v := ?_) (a' := ?_) #[true, true, true, true, true, true, true, true, true, true, true, false, false] rfl rfl (by kernel_rfl) (fun _ _ _ h => h) (Or.inl ⟨by rfl, ?_⟩) ?_ ?_
    rotate_left
    · intro w'
      go_simp
      with_reducible rfl
    rotate_left
    · simp only [Act.put, List.setIfInBounds_toArray, List.set_cons_zero, List.set_cons_succ, i64_w, i32_w]
      rfl
    refine pure_ (i := 11) (N := some 29) (v := ?_) (a' := ?_) #[true, true, true, true, true, true, true, true, true, true, true, true, false] rfl rfl (by kernel_rfl) (fun _ _ _ h => h) (Or.inl ⟨by rfl, ?_⟩) ?_ ?_
    rotate_left
    · intro w'
      go_simp
      with_reducible rfl
    rotate_left
    · simp only [Act.put, List.setIfInBounds_toArray, List.set_cons_zero, List.set_cons_succ, i64_w, i32_w]
      rfl
    refine last_ (i := 12) (N := none) #[true, true, true, true, true, true, true, true, true, true, true, true, true] rfl rfl (by kernel_rfl) (by decide) (fun K hK => ?_)
    refine skip_ (w1 := ?_) (by rfl) rfl ?_ ?_
    rotate_left
    · go_simp
      rfl
    refine hK.out _ _ ?_
    clear hK K
    refine done_ (by kernel_rfl) ?_

    have H3 := Aside0.mk ((H1.out.set_off c).below (below_drew (Below.refl _ _)))
    have HK3 := Aside0.mk (Kept.drew (HK1.out.setCell (p := ⟨d, 4, none⟩) (.inl HOK.out.1) (.bool c)))
    have HB3 := Aside0.mk (below_drew (HB1.out.setCell (p := ⟨d, 4, none⟩) HOK.out.2 (.bool c)))
    obtain ⟨_, hv4, _, _⟩ := H3.out.cells
    have hv5 : ((w.setCell ⟨d, 3, none⟩ (.int .i64 nn)).setCell ⟨d, 4, none⟩ (.bool c)).cell? ⟨d, 4, none⟩ = some (.bool c) := hv4
    clear hz2 hz3 hz4' hf3 hf4
    cases c with
    | false =>
      go_wp2_with (first | (go_at_call 49; refine (dk_keep d _ base ok _ H3.out (Nat.le_trans HBS.out HK3.out.1)).mono ?_; rintro e' w4 ⟨rfl, hd4, hk4, hb4⟩; have HD4 := Aside0.mk hd4; have HK4 := Aside0.mk hk4; have HB4 := Aside0.mk hb4; obtain ⟨_, hu4, _, _⟩ := HD4.out.cells; clear hd4 hk4 hb4))
      go_ret
      refine ⟨congrArg (fun q => Ending.returned (.int .i64 q)) (show (_ : Int) = x.flush.2 by unfold Dk.flush; rw [if_neg (by rw [HO.out]; decide), ← HNN.out, ← HCC.out]; rfl), ?_, HK3.out.then_ HK4.out (fun k hk => .inl hk), HB3.out.trans HB4.out⟩
      have := HD4.out
      unfold Dk.flush
      rw [if_neg (by rw [HO.out]; decide), ← HNN.out, ← HCC.out]
      have e : ({ x with n := nn, S := x.E } : Dk) = { S := x.E, E := x.E, tr := x.tr, n := nn, off := false } := by rw [← HO.out]
      show DkAt w4 base _ d { x with n := nn, S := x.E }
      rw [e]
      exact this.mono (fun k hk => hk.imp id (fun h => Nat.le_trans HK3.out.1 h))
    | true =>
      go_wp2
      go_ret
      refine ⟨congrArg (fun q => Ending.returned (.int .i64 q)) (show (_ : Int) = x.flush.2 by unfold Dk.flush; rw [if_neg (by rw [HO.out]; decide), ← HNN.out, ← HCC.out]; rfl), ?_, HK3.out, HB3.out⟩
      have := H3.out
      unfold Dk.flush
      rw [if_neg (by rw [HO.out]; decide), ← HNN.out, ← HCC.out]
      exact this.mono (fun k hk => .inl hk)

end Go.Proofs.Ytpkhpfgojhojaaa.PLg

namespace Go.Proofs.Ytpkhpfgojhojaaa.PLg
open Go.RowKit Go.Proofs.YtpkhpfgojhojaaaW.PrintWords Go.Proofs.YtpkhpfgojhojaaaW.PrintLast Go.Proofs.YtpkhpfgojhojaaaW.PrintMore
attribute [local go_sem] max2_int min2_int max_two min_two max_three min_three max_four min_four
set_option linter.unusedVariables false
set_option linter.unusedSimpArgs false
-- IMPORT: Derived.Test.@N@WOwn
-- IMPORT: Derived.Test.@N@DStroke
set_option maxHeartbeats 2000000 in
set_option maxRecDepth 100000 in
theorem dk_Flush (d : Nat) (w : World) (base : Nat) (ok : Nat → Prop) (x : Dk) (h : DkAt w base ok d x) (hbs : base ≤ w.heap.size) :
    Calls Try.prog 12 #[.pointer (some ⟨d, 0, none⟩)] w fun e w' => e = .returned (.int .i64 x.flush.2) ∧ DkAt w' base (fun k => ok k ∨ w.heap.size ≤ k) d x.flush.1 ∧ Kept w w' ok ∧ Below base w w' := by
  have H := Aside0.mk h
  have HBS := Aside0.mk hbs
  have hmf : ∀ (fn : Fn) (first cap : Array Value) (w : World), (Instr.makeFunc fn first cap).run Try.prog w = .ok (.func fn first cap) w := fun _ _ _ _ => rfl
  clear h hbs
  go_enter Try.func12, Try.ntmps12
  go_wp2_with (first | (go_at_call 50; refine (dk_stroke_k d _ base ok x H.out HBS.out).mono ?_; rintro e w6 ⟨rfl, hd6, hk6, hb6⟩; have HD6 := Aside0.mk hd6; have HK6 := Aside0.mk hk6; have HB6 := Aside0.mk hb6; clear hd6 hk6 hb6))
  go_ret
  exact ⟨rfl, HD6.out, HK6.out, HB6.out⟩
theorem C_sub {w : World} {g n off m : Nat} {k : IntKind} {xs : List Int} (h : (Kd.int k).C w (some ⟨g, 0, none⟩) n xs) (hm : off + m ≤ n) : (Kd.int k).C w (some ⟨g, off, none⟩) m ((xs.drop off).take m) := by
  have hl := h.1
  refine ⟨by rw [List.length_take, List.length_drop]; omega, by have := h.2.1; omega, fun hp => ⟨_, rfl, fun j p hj => ?_⟩⟩
  obtain ⟨ad, e, hc⟩ := h.2.2 (by omega)
  injection e with e
  subst e
  have hjm : j < m := by
    have := (List.getElem?_eq_some_iff.1 hj).1
    rw [List.length_take] at this; omega
  have hj2 : xs[off + j]? = some p := by rw [List.getElem?_take, if_pos hjm, List.getElem?_drop] at hj; exact hj
  obtain ⟨c, h1, h2, h3⟩ := hc (off + j) p hj2
  refine ⟨c, h1, h2, fun q u hu => ?_⟩
  have := h3 q u hu
  have e1 : (⟨g, 0, none⟩ : Addr).add ((off + j) * (Kd.int k).sz + q) = ⟨g, off + j + q, none⟩ := by rw [add_plain]; congr 1; show (off + j) * 1 + q = _; omega
  have e2 : (⟨g, off, none⟩ : Addr).add (j * (Kd.int k).sz + q) = ⟨g, off + j + q, none⟩ := by
    have e3 : j * (Kd.int k).sz + q = j + q := by show j * 1 + q = _; omega
    rw [e3]
    unfold Addr.add
    split <;> simp_all <;> omega
  rw [e1] at this
  rw [e2]
  exact this
theorem length_sec (l : List Int) (i : Nat) (h : i * 64 + 64 ≤ l.length) : (sec l i).length = 64 := by unfold sec; rw [List.length_take, List.length_drop]; omega
set_option maxHeartbeats 2000000 in
set_option maxRecDepth 100000 in
theorem dk_Read (d : Nat) (i : Int) (w : World) (base : Nat) (ok : Nat → Prop) (x : Dk) (h : DkAt w base ok d x) :
    Calls Try.prog 18 #[.pointer (some ⟨d, 0, none⟩), .int .i64 i] w fun e w' => ∃ v, e = .returned (.tuple #[v, .int .i64 (x.read i).2]) ∧ (Kd.int .u8).R 5 w' w.heap.size (fun _ => True) v (x.read i).1 ∧ Below w.heap.size w w' := by
  have H := Aside0.mk h
  obtain ⟨_, hc4, _, _⟩ := h.cells
  obtain ⟨gs, cs, ge, ce, bm, mm, D, h1, h2, h3, h4, h5, h6, h7, h8, h9, h10, h11⟩ := h
  have hc1 := (blk_cell h1 1).trans rfl
  have HEC := Aside0.mk (Kd.R_reads' h3)
  have HFI := Aside0.mk h11
  clear h1 h2 h3 h4 h5 h6 h7 h8 h9 h10 h11
  have hds := Try.underlying82
  by_cases k1 : i < 0
  · have t1 : decide (i < 0) = true := decide_eq_true k1
    have HN : Aside0 (x.read i = ([], 100)) := ⟨by unfold Dk.read; rw [if_neg (by omega)]⟩
    clear k1
    go_enter Try.func18, Try.ntmps18
    go_wp2
    go_ret2
    rw [HN.out]
    exact ⟨_, rfl, Kd.R_nil _ _ _ _ _, Below.refl _ _⟩
  · have t1 : decide (i < 0) = false := decide_eq_false k1
    by_cases k2 : i ≥ (x.E.length : Int) / 64
    · have t2 : decide (i ≥ (x.E.length : Int) / 64) = true := decide_eq_true k2
      have t3 : decide ((x.E.length : Int) / 64 ≤ i) = true := decide_eq_true k2
      have HN : Aside0 (x.read i = ([], 100)) := ⟨by unfold Dk.read; rw [if_neg (by omega)]⟩
      clear k1 k2
      go_enter Try.func18, Try.ntmps18
      go_wp2_with (first | (go_at_call 30; refine (dk_count d _ base _ x H.out).mono ?_; rintro e w5 ⟨rfl, rfl⟩))
      go_ret2
      rw [HN.out]
      exact ⟨_, rfl, Kd.R_nil _ _ _ _ _, Below.refl _ _⟩
    · have t2 : decide (i ≥ (x.E.length : Int) / 64) = false := decide_eq_false k2
      have t3 : decide ((x.E.length : Int) / 64 ≤ i) = false := decide_eq_false k2
      obtain ⟨m, rfl⟩ : ∃ m : Nat, i = (m : Int) := ⟨i.toNat, by omega⟩
      have HI : Aside0 (m * 64 + 64 ≤ x.E.length) := ⟨by omega⟩
      have HM : Aside0 (x.E.length ≤ 140737488355328) := ⟨by have := HFI.out.2.2.2; omega⟩
      cases ho : x.off with
      | true =>
        rw [ho] at hc4
        have HN : Aside0 (x.read (m : Int) = ([], 103)) := ⟨by unfold Dk.read; rw [if_pos (by omega), if_pos ho]⟩
        clear k1 k2 ho
        go_enter Try.func18, Try.ntmps18
        go_wp2_with (first | (go_at_call 30; refine (dk_count d _ base _ x H.out).mono ?_; rintro e w5 ⟨rfl, rfl⟩))
        go_ret2
        rw [HN.out]
        exact ⟨_, rfl, Kd.R_nil _ _ _ _ _, Below.refl _ _⟩
      | false =>
        rw [ho] at hc4
        have HN : Aside0 (x.read (m : Int) = (sec x.E m, 0)) := ⟨by unfold Dk.read; rw [if_pos (by omega), if_neg (by rw [ho]; decide)]; rfl⟩
        have HL := Aside0.mk (length_sec x.E m HI.out)
        have HCS : Aside0 ((Kd.int .u8).C w (some ⟨ge, m * 64, none⟩) (sec x.E m).length (sec x.E m)) := ⟨by rw [HL.out]; exact C_sub HEC.out.2.2 HI.out⟩
        have HCL : Aside0 ((sec x.E m).length ≤ ce - m * 64) := ⟨by rw [HL.out]; have := HEC.out.2.1; have := HI.out; omega⟩
        have HSM : Aside0 (slices_Clone_byte_byte.f (sec x.E m) = some (sec x.E m)) := ⟨clone_some (by rw [HL.out]; decide)⟩
        have HAT : Aside0 (Calls Try.prog 52 #[.slice (some ⟨ge, 0, none⟩) x.E.length ce, .int .i64 m] w fun e w' => e = .returned (.slice (some ⟨ge, m * 64, none⟩) (sec x.E m).length (ce - m * 64)) ∧ w = w') := ⟨by rw [HL.out]; exact dk_at ge x.E.length ce m w HI.out HEC.out.2.1 HM.out⟩
        clear k1 k2 ho
        go_enter Try.func18, Try.ntmps18
        go_wp2_with (first | (go_at_call 30; refine (dk_count d _ base _ x H.out).mono ?_; rintro e w5 ⟨rfl, rfl⟩) | (go_at_call 52; refine HAT.out.mono ?_; rintro e w7 ⟨rfl, rfl⟩) | (go_at_call 48; refine (slices_Clone_byte_byte.calls (some ⟨ge, m * 64, none⟩) (ce - m * 64) (sec x.E m) (sec x.E m) _ HCS.out HCL.out HSM.out).mono ?_; rintro e w8 ⟨v0, rfl, hR, hb⟩; have HR := Aside0.mk hR; have HB := Aside0.mk hb; clear hR hb))
        go_ret2
        rw [HN.out]
        exact ⟨_, rfl, HR.out, HB.out⟩

end Go.Proofs.Ytpkhpfgojhojaaa.PLg
