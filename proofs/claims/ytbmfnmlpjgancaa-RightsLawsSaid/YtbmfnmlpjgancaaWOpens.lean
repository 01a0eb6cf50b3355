/- Small laws of this repo: what a row's reading says of an argument, kind by kind (numbers, bools, strings, slices, structs): every reading is of a value of the kind, and is no larger than the row's reach. -/
import Derived.Test.YtbmfnmlpjgancaaWWords
import Derived.SizedLaws
import Derived.ChangeSlices
import Derived.ChangeArms
import Derived.Deep.Slices
import Derived.DataReads
namespace Go.Proofs.YtbmfnmlpjgancaaW.Opens
open Go.ChangeShapes Go.WideShapes Go.RowKit Go.Proofs.YtbmfnmlpjgancaaW.PrintWords

section
variable {H : Type} (enc : TypeId × Value → H) (P : Program) (w : World)

/-- Every reading of a value of type t is of a value of the kind d, which is as S says. -/
def Opens (t : TypeId) {α : Type} (d : Kd α) (S : α → Prop) : Prop :=
  ∀ (base : Nat) (spare : Nat → Bool) (held : Bool) (fuel : Nat) (cs : List Value) (x : DataW H × List MemPlace),
    DataW.trod enc P w base spare held fuel t cs = some x → (∀ n ∈ x.1.weights P t, n ≤ reachBytes) → ∃ a : α, d.K w a cs ∧ S a

/-- .. of some fields of a struct, from cell o on. -/
def OpensF (fs : List Field) (o : Nat) {α : Type} (d : Kd α) (S : α → Prop) : Prop :=
  ∀ (base : Nat) (spare : Nat → Bool) (held : Bool) (fuel : Nat) (cs : List Value) (xs : List (DataW H × List MemPlace)),
    xs.length = fs.length → (∀ (i : Nat) (f : Field), fs[i]? = some f → DataW.trod enc P w base spare held fuel f.type ((cs.drop f.offset).take (P.cellsOf f.type)) = xs[i]?) →
    (∀ n ∈ DataW.weightsEach P (fs.map (·.type)) (xs.map (·.1)), n ≤ reachBytes) → ∃ a : α, d.K w a ((cs.drop o).take d.sz) ∧ S a
end

section
variable {H : Type} {enc : TypeId × Value → H} {P : Program} {w : World} {t e : TypeId} {α β : Type} {d : Kd α} {S : α → Prop}

theorem opens_int {k : IntKind} (ht : P.underlying t = some (.int k)) : Opens enc P w t (Kd.int k) (fun n => (Lit.int k n).wf = true) := by
  intro base spare held fuel cs x h _
  obtain ⟨n, rfl, _, hw⟩ := DataW.trod_int ht h
  exact ⟨n, rfl, hw⟩

theorem opens_bool (ht : P.underlying t = some .bool) : Opens enc P w t Kd.bool (fun _ => True) := by
  intro base spare held fuel cs x h _
  obtain ⟨b, rfl, _⟩ := DataW.trod_bool ht h
  exact ⟨b, rfl, trivial⟩

theorem opens_string (ht : P.underlying t = some .string) : Opens enc P w t Kd.string (fun s => s.size ≤ 140737488351232) := by
  intro base spare held fuel cs x h hz
  obtain ⟨s, rfl, rfl, hs⟩ := DataW.trod_string ht h
  refine ⟨s, rfl, ?_⟩
  have h1 := hz s.data.toList.length (by simp [DataW.weights])
  have h2 : s.data.toList.length = s.size := by rw [Array.length_toList]; rfl
  rw [h2] at h1
  exact h1

theorem weights_all {ds : List (DataW H)} {y : DataW H} (hy : y ∈ ds) {n : Nat} (hn : n ∈ y.weights P e) : n ∈ DataW.weightsAll P e ds := by
  induction ds with
  | nil => cases hy
  | cons a r ih =>
    simp only [DataW.weightsAll, List.mem_append]
    rcases List.mem_cons.1 hy with rfl | h
    · exact .inl hn
    · exact .inr (ih h)

theorem opens_slice {B : Nat} (ht : P.underlying t = some (.slice e)) (hs : P.cellsOf e = d.sz) (hB : P.bytesOf e = B) (hd : Opens enc P w e d S) :
    Opens enc P w t (Kd.slice e d) (fun l => l.length ≤ maxLen ∧ l.length * B ≤ 140737488351232 ∧ ∀ x ∈ l, S x) := by
  intro base spare held fuel cs x h hz
  rcases Deep.open_slice ht h with ⟨rfl, rfl⟩ | ⟨a, len, cap, m, n, D, Pl, rfl, hb, hl, hm, hmm, rfl, hx⟩
  · refine ⟨[], ⟨none, 0, rfl, Nat.le_refl _, rfl, by simp, fun h => absurd h (Nat.lt_irrefl _)⟩, by simp, by simp, by simp⟩
  · have hlm : len ≤ m := by
      rw [hmm]
      split <;> omega
    have hw : ∀ i, i < len → ∀ n ∈ (D i).weights P e, n ≤ reachBytes := by
      intro i hi n hn
      refine hz n ?_
      simp only [DataW.weights, ht, List.mem_cons, List.mem_append]
      exact .inr (.inl (weights_all (List.mem_map.2 ⟨i, List.mem_range.2 hi, rfl⟩) hn))
    have hel : ∀ i, i < len → ∃ y : α, (∃ cs', w.cells? base (a.add (i * P.cellsOf e)) (P.cellsOf e) = some cs' ∧ d.K w y cs') ∧ S y := by
      intro i hi
      obtain ⟨cs', h1, h2⟩ := hx i (by omega)
      obtain ⟨y, hk, hS⟩ := hd base spare held n cs' _ h2 (hw i hi)
      exact ⟨y, ⟨cs', h1, hk⟩, hS⟩
    have hln : len ≤ 9223372036854775807 := by unfold maxLen at hm; omega
    by_cases h0 : len = 0
    · subst h0
      refine ⟨[], ⟨some a, cap, rfl, by simp, rfl, by simp, fun h => absurd h (Nat.lt_irrefl _)⟩, by simp, by simp, by simp⟩
    · obtain ⟨y0, _⟩ := hel 0 (by omega)
      haveI : Inhabited α := ⟨y0⟩
      obtain ⟨f, hf⟩ := Deep.choose_lt hel
      have hlen : ((List.range len).map f).length = len := by simp
      refine ⟨(List.range len).map f, ⟨some a, cap, by rw [hlen], by rw [hlen]; exact hl, hlen.trans hlen.symm |>.trans hlen |> fun _ => rfl, by rw [hlen]; exact hln, fun _ => ⟨a, rfl, ?_⟩⟩, by rw [hlen]; omega, ?_, ?_⟩
      · intro j p hj
        rw [List.getElem?_map] at hj
        obtain ⟨i, hi, rfl⟩ := Option.map_eq_some_iff.1 hj
        have hjl : j < len := by
          have := (List.getElem?_eq_some_iff.1 hi).1
          simpa using this
        have hij : i = j := by
          rw [List.getElem?_range hjl] at hi
          exact (Option.some.inj hi).symm
        subst hij
        obtain ⟨⟨cs', h1, hk⟩, _⟩ := hf i hjl
        refine ⟨cs', d.K_len hk, hk, ?_⟩
        intro k u hu
        obtain ⟨_, hl', hc'⟩ := World.cells?_some h1
        have hk' : k < cs'.length := (List.getElem?_eq_some_iff.1 hu).1
        have hk2 : k < P.cellsOf e := by rw [← hl']; exact hk'
        have := hc' k hk2
        rw [Deep.add_add, hs] at this
        rw [this, hu]
      · rw [hlen]
        have h1 := hz ((((List.range len).map D).length + ((List.range (m - len)).map fun j => D (len + j)).length) * P.bytesOf e) (by simp only [DataW.weights, ht]; exact List.mem_cons_self)
        rw [hB] at h1
        have h2 : len ≤ ((List.range len).map D).length + ((List.range (m - len)).map fun j => D (len + j)).length := by simp
        exact Nat.le_trans (Nat.mul_le_mul_right _ h2) h1
      · intro x hx
        obtain ⟨i, hi, rfl⟩ := List.mem_map.1 hx
        exact (hf i (List.mem_range.1 hi)).2

theorem opensF_one {f : Field} {o : Nat} (ho : f.offset = o) (hc : P.cellsOf f.type = d.sz) (h : Opens enc P w f.type d S) : OpensF enc P w [f] o d S := by
  intro base spare held fuel cs xs hl hx hz
  match xs, hl with
  | [y], _ =>
    have hy := hx 0 f rfl
    rw [ho, hc] at hy
    exact h base spare held fuel _ y hy (fun n hn => hz n (by simp [DataW.weightsEach, hn]))

theorem opensF_cons {f : Field} {fs : List Field} {o : Nat} {d2 : Kd β} {S2 : β → Prop} (ho : f.offset = o) (hc : P.cellsOf f.type = d.sz) (h : Opens enc P w f.type d S) (h2 : OpensF enc P w fs (o + d.sz) d2 S2) :
    OpensF enc P w (f :: fs) o (Kd.pair d d2) (fun x => S x.1 ∧ S2 x.2) := by
  intro base spare held fuel cs xs hl hx hz
  match xs, hl with
  | y :: ys, hl =>
    have hy := hx 0 f rfl
    rw [ho, hc] at hy
    obtain ⟨a, ha, hS⟩ := h base spare held fuel _ y hy (fun n hn => hz n (by simp only [List.map_cons, DataW.weightsEach, List.mem_append]; exact .inl hn))
    obtain ⟨b, hb, hS2⟩ := h2 base spare held fuel cs ys (by simpa using hl) (fun i g hg => by have := hx (i + 1) g (by simpa using hg); simpa using this) (fun n hn => hz n (by simp only [List.map_cons, DataW.weightsEach, List.mem_append]; exact .inr hn))
    refine ⟨(a, b), ⟨_, _, ?_, ha, hb⟩, hS, hS2⟩
    show (cs.drop o).take (d.sz + d2.sz) = _
    rw [List.take_add, List.drop_drop]

theorem opens_struct {fs : Array Field} (ht : P.underlying t = some (.struct fs)) (hs : P.cellsOf t = d.sz) (h : OpensF enc P w fs.toList 0 d S) : Opens enc P w t d S := by
  intro base spare held fuel cs x hx hz
  obtain ⟨xs, n, _, rfl, hl, hn, hm⟩ := DataW.trod_struct ht hx
  obtain ⟨a, ha, hS⟩ := h base spare held n cs xs (by simpa using hn) (fun i f hf => hm i f (by simpa using hf)) (fun n hn => hz n (by simp only [DataW.weights, ht]; exact hn))
  rw [List.drop_zero, ← hs, ← hl, List.take_length] at ha
  exact ⟨a, ha, hS⟩

theorem opens_iso {f : β → α} (h : Opens enc P w t d S) (g : α → β) (hg : ∀ y, f (g y) = y) : Opens enc P w t (Kd.iso d f) (fun b => S (f b)) := by
  intro base spare held fuel cs x hx hz
  obtain ⟨a, ha, hS⟩ := h base spare held fuel cs x hx hz
  exact ⟨g a, by show d.K w (f (g a)) cs; rw [hg]; exact ha, by show S (f (g a)); rw [hg]; exact hS⟩
end
end Go.Proofs.YtbmfnmlpjgancaaW.Opens
