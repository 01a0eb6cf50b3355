/- The pure statement of RightsExact: what the walk's Lean function answers. -/
import Derived.Test.YtbmfnmlpjgancaaPRightsExactx3
import Derived.Test.YtbmfnmlpjgancaaOpensRightsExact
namespace Go.Proofs.Ytbmfnmlpjgancaa.PRightsExact
open Go.RowKit Go.Proofs.YtbmfnmlpjgancaaW.PrintWords Go.Proofs.YtbmfnmlpjgancaaW.PrintLast

theorem Base_at {n v : Int} (h : rights_Base.f 60 n = some (v, 0)) (k : Nat) (hk : 60 ≤ k) : rights_Base.f k n = some (v, 0) := at_rounds (rights_Base.mono n) hk h
theorem Inherit_at {n v : Int} (h : rights_Inherit.f 60 n = some (v, 0)) (k : Nat) (hk : 60 ≤ k) : rights_Inherit.f k n = some (v, 0) := at_rounds (rights_Inherit.mono n) hk h
theorem RBase_at {n v : Int} (h : gangwayref17_Base.f 60 n = some v) (k : Nat) (hk : 60 ≤ k) : gangwayref17_Base.f k n = some v := at_rounds (gangwayref17_Base.mono n) hk h
theorem RInherit_at {n v : Int} (h : gangwayref17_Inherit.f 60 n = some v) (k : Nat) (hk : 60 ≤ k) : gangwayref17_Inherit.f k n = some v := at_rounds (gangwayref17_Inherit.mono n) hk h

theorem kinds (n : Int) (h : 1 ≤ n) (h5 : n ≤ 5) : ∃ v u, ∀ k, 60 ≤ k → rights_Base.f k n = some (v, 0) ∧ rights_Inherit.f k n = some (u, 0) ∧ gangwayref17_Base.f k n = some v ∧ gangwayref17_Inherit.f k n = some u := by
  have : n = 1 ∨ n = 2 ∨ n = 3 ∨ n = 4 ∨ n = 5 := by omega
  rcases this with rfl | rfl | rfl | rfl | rfl
  · exact ⟨136314882, 0, fun k hk => ⟨Base_at (by kernel_rfl) k hk, Inherit_at (by kernel_rfl) k hk, RBase_at (by kernel_rfl) k hk, RInherit_at (by kernel_rfl) k hk⟩⟩
  · exact ⟨136314944, 0, fun k hk => ⟨Base_at (by kernel_rfl) k hk, Inherit_at (by kernel_rfl) k hk, RBase_at (by kernel_rfl) k hk, RInherit_at (by kernel_rfl) k hk⟩⟩
  · exact ⟨136314944, 0, fun k hk => ⟨Base_at (by kernel_rfl) k hk, Inherit_at (by kernel_rfl) k hk, RBase_at (by kernel_rfl) k hk, RInherit_at (by kernel_rfl) k hk⟩⟩
  · exact ⟨130022937, 268435455, fun k hk => ⟨Base_at (by kernel_rfl) k hk, Inherit_at (by kernel_rfl) k hk, RBase_at (by kernel_rfl) k hk, RInherit_at (by kernel_rfl) k hk⟩⟩
  · exact ⟨148898303, 0, fun k hk => ⟨Base_at (by kernel_rfl) k hk, Inherit_at (by kernel_rfl) k hk, RBase_at (by kernel_rfl) k hk, RInherit_at (by kernel_rfl) k hk⟩⟩

theorem awake (k : Nat) (hk : 60 ≤ k) : gangwaylaw17_wakes.f k = some true := by
  have h : gangwaylaw17_wakes.f 60 = some true := by kernel_rfl
  exact at_rounds gangwaylaw17_wakes.mono hk h

def mayB (x : Int) : Bool := decide (0 ≤ x ∧ x ≤ 1073741823)
theorem may_f (x : Int) : gangwayref17_May.f x = some (mayB x) := by
  unfold gangwayref17_May.f mayB
  by_cases h : x ≥ 0 <;> by_cases h2 : x ≤ 1073741823 <;> simp [h, h2] <;> omega
theorem set_may_f (x : Int) : rights_set_may.f x = some (mayB x) := by
  unfold rights_set_may.f mayB
  by_cases h : x ≥ 0 <;> by_cases h2 : x ≤ 1073741823 <;> simp [h, h2] <;> omega
theorem kind_f (n : Int) : rights_kind.f n = some (decide (1 ≤ n ∧ n ≤ 5)) := by
  unfold rights_kind.f
  by_cases h : n ≥ 1 <;> by_cases h2 : n ≤ 5 <;> simp [h, h2] <;> omega
theorem rkind_f (n : Int) : gangwayref17_Kind.f n = some (decide (1 ≤ n ∧ n ≤ 5)) := by
  unfold gangwayref17_Kind.f
  by_cases h : n ≥ 1 <;> by_cases h2 : n ≤ 5 <;> simp [h, h2] <;> omega

/-- One round: whatever is asked, the next one is asked. -/
theorem round (k : Nat) (l : List S24) (i : Int) (h0 : 0 ≤ i) (hl : i < (l.length : Int)) (h30 : i < 30) (hk : 60 ≤ k) :
    gangwaylaw17_RightsExact.l0 (k + 6) l i = gangwaylaw17_RightsExact.l0 k l (wrap64 (i + 1)) := by
  simp only [gangwaylaw17_RightsExact.l0]
  rw [if_pos hl]
  simp only [gangwaylaw17_RightsExact.j1]
  rw [decide_eq_true h30, if_pos rfl, if_pos h0, if_pos hl]
  generalize rd_T24 l i = p
  obtain ⟨a, b, c, d⟩ := p
  simp only [may_f, Option.bind_some]
  have hj : ∀ (ma mb : Bool), mayB a = ma → mayB b = mb → gangwaylaw17_RightsExact.j2 (k + 4) l i ma (ma && mb) a b c d = gangwaylaw17_RightsExact.l0 k l (wrap64 (i + 1)) := by
    intro ma mb ha hb
    have h5 : ∀ x, x = false → gangwaylaw17_RightsExact.j5 (k + 1) l i x a b c d = gangwaylaw17_RightsExact.l0 k l (wrap64 (i + 1)) := by
      rintro x rfl
      simp only [gangwaylaw17_RightsExact.j5]
      rw [if_neg (by simp)]
      by_cases hd : 1 ≤ d ∧ d ≤ 5
      · obtain ⟨v, u, hv⟩ := kinds d hd.1 hd.2
        obtain ⟨h1, h2, h3, h4⟩ := hv k hk
        simp only [h1, h2, h3, h4, rkind_f, Option.bind_some, hd, and_self, decide_true, if_true, gangwaylaw17_num.f]
      · have h1 : rights_Base.f k d = some (0, 100) := by unfold rights_Base.f; rw [kind_f]; simp [hd]
        have h2 : rights_Inherit.f k d = some (0, 100) := by unfold rights_Inherit.f; rw [kind_f]; simp [hd]
        simp only [h1, h2, rkind_f, Option.bind_some, hd, decide_false, gangwaylaw17_num.f, if_true]
        simp
    have h4 : ∀ x, x = false → gangwaylaw17_RightsExact.j4 (k + 2) l i (ma && mb) x a b c d = gangwaylaw17_RightsExact.l0 k l (wrap64 (i + 1)) := by
      rintro x rfl
      simp only [gangwaylaw17_RightsExact.j4]
      rw [if_neg (by simp)]
      unfold rights_Within.f rights_set_within.f gangwayref17_Within.f gangwaylaw17_num.f
      simp only [set_may_f, ha, hb, Option.bind_some]
      cases ma <;> cases mb <;> simp [h5]
    have h3 : ∀ x, x = (ma && decide (0 ≤ c ∧ c ≤ 29)) → gangwaylaw17_RightsExact.j3 (k + 3) l i (ma && mb) x a b c d = gangwaylaw17_RightsExact.l0 k l (wrap64 (i + 1)) := by
      rintro x rfl
      simp only [gangwaylaw17_RightsExact.j3]
      unfold rights_Has.f rights_set_has.f gangwaylaw17_num.f
      simp only [set_may_f, ha, Option.bind_some]
      cases ma
      · simpa using h4 false rfl
      · by_cases hc : c < 0
        · have : ¬ (0 ≤ c ∧ c ≤ 29) := by omega
          have hc0 : ¬ 0 ≤ c := by omega
          simp [hc, hc0]; simpa using h4 false rfl
        · by_cases hc2 : c > 29
          · have : ¬ (0 ≤ c ∧ c ≤ 29) := by omega
            simp [hc, hc2, this]; simpa using h4 false rfl
          · have : (0 ≤ c ∧ c ≤ 29) := by omega
            simp [hc, hc2, this]; simpa using h4 false rfl
    simp only [gangwaylaw17_RightsExact.j2]
    cases ma
    · rw [if_neg (by simp)]; exact h3 _ (by simp)
    · rw [if_pos rfl]
      by_cases hc : c ≥ 0
      · rw [if_pos hc]; exact h3 _ (by simp; omega)
      · rw [if_neg hc]; exact h3 _ (by simp; omega)
  cases ha : mayB a
  · simpa using hj false (mayB b) ha rfl
  · have := hj true (mayB b) ha rfl
    simpa using this

theorem ends (d : Nat) : ∀ (k : Nat) (l : List S24) (i : Int), 0 ≤ i → i ≤ 30 → 30 - i = d → 6 * d + 62 ≤ k → gangwaylaw17_RightsExact.l0 k l i = some true := by
  induction d with
  | zero =>
    intro k l i h0 h1 hd hk
    obtain ⟨k, rfl⟩ : ∃ m, k = m + 2 := ⟨k - 2, by omega⟩
    have hi : ¬ i < 30 := by omega
    simp only [gangwaylaw17_RightsExact.l0, gangwaylaw17_RightsExact.j1, decide_eq_false hi]
    split <;> (rw [if_neg (by simp), awake k (by omega)]; rfl)
  | succ d ih =>
    intro k l i h0 h1 hd hk
    by_cases hl : i < (l.length : Int)
    · obtain ⟨k, rfl⟩ : ∃ m, k = m + 6 := ⟨k - 6, by omega⟩
      rw [round k l i h0 hl (by omega) (by omega)]
      have : wrap64 (i + 1) = i + 1 := by unfold wrap64; omega
      rw [this]
      exact ih k l (i + 1) (by omega) (by omega) (by omega) (by omega)
    · obtain ⟨k, rfl⟩ : ∃ m, k = m + 2 := ⟨k - 2, by omega⟩
      simp only [gangwaylaw17_RightsExact.l0, gangwaylaw17_RightsExact.j1]
      rw [if_neg hl, if_neg (by simp), awake k (by omega)]; rfl

theorem pure (l : List (S24)) (_h : ok22 l) : ∃ k, gangwaylaw17_RightsExact.f k l = some true :=
  ⟨300, ends 30 300 l 0 (by omega) (by omega) (by omega) (by omega)⟩

end Go.Proofs.Ytbmfnmlpjgancaa.PRightsExact
