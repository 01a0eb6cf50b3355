/- The pure statement of RightsLaws: what the walk's Lean function answers. -/
import Derived.Test.YtbmfnmlpjgancaaPRightsLawsx2
import Derived.Test.YtbmfnmlpjgancaaOpensRightsLaws
import Derived.Laws.BitsLemmas
namespace Go.Proofs.Ytbmfnmlpjgancaa.PRightsLaws
open Go.RowKit Go.Proofs.YtbmfnmlpjgancaaW.PrintWords Go.Proofs.YtbmfnmlpjgancaaW.PrintLast

def mayB (x : Int) : Bool := decide (0 ≤ x ∧ x ≤ 1073741823)
theorem set_may_f (x : Int) : rights_set_may.f x = some (mayB x) := by
  unfold rights_set_may.f mayB
  by_cases h : x ≥ 0 <;> by_cases h2 : x ≤ 1073741823 <;> simp [h, h2] <;> omega

/-- A bit, as the code asks it. -/
theorem bit_at (a k : Nat) (ha : a < 2 ^ 30) (hk : k < 30) : (Go.bits .and .i64 (shr .i64 (a : Int) (k : Int)) 1 == 1) = a.testBit k := by
  have e : shr .i64 (a : Int) (k : Int) = ((a / 2 ^ k : Nat) : Int) := by
    unfold shr
    have hm : min ((k : Int).toNat) IntKind.i64.bits = k := by simp [IntKind.bits]; omega
    rw [hm]; simp
  have hlt : a / 2 ^ k < 2 ^ 30 := Nat.lt_of_le_of_lt (Nat.div_le_self _ _) ha
  have hw : ∀ n : Int, 0 ≤ n → n < 2 ^ 30 → IntKind.i64.wrap n = n := fun n h0 h1 => by rw [IntKind.wrap_i64]; omega
  have h1 := (bits_nat .i64 30 (by decide) hw (a / 2 ^ k) 1 hlt (by decide)).1
  rw [e]
  show (Go.bits .and .i64 ((a / 2 ^ k : Nat) : Int) ((1 : Nat) : Int) == 1) = _
  rw [h1, Nat.and_one_is_mod, Nat.testBit_eq_decide_div_mod_eq]
  by_cases h : a / 2 ^ k % 2 = 1
  · simp [h]
  · have : a / 2 ^ k % 2 = 0 := by omega
    simp [this]

/-- 'Within', as the code asks it: bit by bit. -/
def allB (a b n : Nat) : Bool := (List.range n).all fun k => !a.testBit k || b.testBit k
theorem allB_succ (a b n : Nat) : allB a b (n + 1) = (allB a b n && (!a.testBit n || b.testBit n)) := by
  unfold allB; rw [List.range_succ, List.all_append]; simp

theorem within_bits (a b : Nat) (ha : a < 2 ^ 30) : (Go.bits .andNot .i64 (a : Int) (b : Int) == 0) = allB a b 30 := by
  have hx : (BitVec.ofInt 64 (a : Int)).toNat = a := by
    rw [BitVec.ofInt_natCast, BitVec.toNat_ofNat]; exact Nat.mod_eq_of_lt (by omega)
  have hle : (BitVec.ofInt 64 (a : Int) &&& ~~~BitVec.ofInt 64 (b : Int)).toNat < 2 ^ 30 := by
    rw [BitVec.toNat_and, hx]; exact Nat.lt_of_le_of_lt Nat.and_le_left ha
  have e : Go.bits .andNot .i64 (a : Int) (b : Int) = (((BitVec.ofInt 64 (a : Int) &&& ~~~BitVec.ofInt 64 (b : Int)).toNat : Nat) : Int) := by
    show IntKind.i64.wrap (((BitVec.ofInt 64 (a : Int) &&& ~~~BitVec.ofInt 64 (b : Int)).toNat : Nat) : Int) = _
    rw [IntKind.wrap_i64]; omega
  rw [e, Bool.eq_iff_iff, beq_iff_eq, Int.natCast_eq_zero]
  unfold allB
  rw [List.all_eq_true]
  constructor
  · intro h k hk
    rw [List.mem_range] at hk
    have h0 : BitVec.ofInt 64 (a : Int) &&& ~~~BitVec.ofInt 64 (b : Int) = 0#64 := by
      apply BitVec.eq_of_toNat_eq; rw [h]; rfl
    have := congrArg (fun v : BitVec 64 => v.getLsbD k) h0
    simp only [BitVec.getLsbD_and, BitVec.getLsbD_not, BitVec.ofInt_natCast, BitVec.getLsbD_ofNat] at this
    have hk64 : k < 64 := by omega
    simp [hk64] at this
    cases ha' : a.testBit k <;> simp_all
  · intro h
    have h0 : BitVec.ofInt 64 (a : Int) &&& ~~~BitVec.ofInt 64 (b : Int) = 0#64 := by
      apply BitVec.eq_of_getLsbD_eq
      intro i hi
      simp only [BitVec.getLsbD_and, BitVec.getLsbD_not, BitVec.ofInt_natCast, BitVec.getLsbD_ofNat]
      by_cases h30 : i < 30
      · have := h i (List.mem_range.2 h30)
        cases ha' : a.testBit i <;> simp_all
      · have : a.testBit i = false := Nat.testBit_lt_two_pow (Nat.lt_of_lt_of_le ha (Nat.pow_le_pow_right (by decide) (by omega)))
        simp [this]
    rw [h0]; rfl

theorem allB_self (a n : Nat) : allB a a n = true := by
  unfold allB; rw [List.all_eq_true]; intro k _; cases a.testBit k <;> rfl
theorem allB_zero (b n : Nat) : allB 0 b n = true := by
  unfold allB; rw [List.all_eq_true]; intro k _; simp

theorem may_nat {x : Int} (h : mayB x = true) : ∃ a : Nat, x = (a : Int) ∧ a < 2 ^ 30 := by
  unfold mayB at h
  have := of_decide_eq_true h
  exact ⟨x.toNat, by omega, by omega⟩

theorem within_f (a b : Int) : rights_Within.f a b = some (if mayB a && mayB b then ((Go.bits .andNot .i64 a b) == 0, 0) else (false, 100)) := by
  unfold rights_Within.f rights_set_within.f
  simp only [set_may_f, Option.bind_some]
  cases mayB a <;> cases mayB b <;> simp

theorem has_f {a : Int} (h : mayB a = true) (c : Int) (h0 : 0 ≤ c) (h1 : c < 30) : rights_Has.f a c = some ((Go.bits .and .i64 (shr .i64 a c) 1) == 1, 0) := by
  unfold rights_Has.f rights_set_has.f
  simp only [set_may_f, Option.bind_some, h]
  rw [if_pos trivial, if_neg (by omega), if_neg (by omega), if_pos h0]
  rfl

/-- The round within: bit by bit. -/
theorem inner (d : Nat) : ∀ (k : Nat) (l : List S24) (i : Int) (w : Bool) (n a b : Nat) (c e : Int), n + d = 30 → d + 1 ≤ k → a < 2 ^ 30 → b < 2 ^ 30 → w = allB a b 30 →
    gangwaylaw17_RightsLaws.l1 k l i w (allB a b n) (n : Int) (a : Int) (b : Int) c e = gangwaylaw17_RightsLaws.l0 (k - (d + 1)) l (wrap64 (i + 1)) := by
  induction d with
  | zero =>
    intro k l i w n a b c e hn hk ha hb hw
    obtain ⟨k, rfl⟩ : ∃ m, k = m + 1 := ⟨k - 1, by omega⟩
    obtain rfl : n = 30 := by omega
    simp only [gangwaylaw17_RightsLaws.l1]
    rw [if_neg (by omega), hw, if_neg (by simp)]
    rfl
  | succ d ih =>
    intro k l i w n a b c e hn hk ha hb hw
    obtain ⟨k, rfl⟩ : ∃ m, k = m + 1 := ⟨k - 1, by omega⟩
    have hma : mayB (a : Int) = true := decide_eq_true (by omega)
    have hmb : mayB (b : Int) = true := decide_eq_true (by omega)
    simp only [gangwaylaw17_RightsLaws.l1]
    rw [if_pos (by omega), has_f hma _ (by omega) (by omega), has_f hmb _ (by omega) (by omega), bit_at a n ha (by omega), bit_at b n hb (by omega)]
    have hwr : wrap64 ((n : Int) + 1) = ((n + 1 : Nat) : Int) := by unfold wrap64; omega
    have := ih k l i w (n + 1) a b c e (by omega) (by omega) ha hb hw
    rw [allB_succ] at this
    have e1 : k + 1 - (d + 1 + 1) = k - (d + 1) := by omega
    rw [e1, ← this]
    simp only [Option.bind_some, gangwaylaw17_num.f, if_true, hwr]
    cases allB a b n <;> cases a.testBit n <;> cases b.testBit n <;> simp

theorem tail_at (k : Nat) (hk : 60 ≤ k) : ((rights_Base.f k 4).bind fun bt157 => ((rights_Base.f k 5).bind fun bt159 => ((rights_Inherit.f k 4).bind fun bt161 => ((rights_Within.f (Go.bits .or .i64 bt157.1 bt159.1) bt161.1).bind fun bt163 => ((gangwaylaw17_num.f bt157.2).bind fun t165 => (if t165 = 0 then ((gangwaylaw17_num.f bt159.2).bind fun t166 => (if t166 = 0 then ((gangwaylaw17_num.f bt161.2).bind fun t167 => (if t167 = 0 then ((gangwaylaw17_num.f bt163.2).bind fun t168 => (if t168 = 0 then (if bt163.1 = true then ((gangwaylaw17_wakes.f k).bind fun t169 => (some t169)) else (some false)) else (some false))) else (some false))) else (some false))) else (some false))))))) = some true := by
  have h1 : rights_Base.f k 4 = some (130022937, 0) := at_rounds (rights_Base.mono 4) hk (by kernel_rfl)
  have h2 : rights_Base.f k 5 = some (148898303, 0) := at_rounds (rights_Base.mono 5) hk (by kernel_rfl)
  have h3 : rights_Inherit.f k 4 = some (268435455, 0) := at_rounds (rights_Inherit.mono 4) hk (by kernel_rfl)
  have h4 : rights_Within.f (Go.bits .or .i64 130022937 148898303) 268435455 = some (true, 0) := by kernel_rfl
  have h5 : gangwaylaw17_wakes.f k = some true := at_rounds gangwaylaw17_wakes.mono hk (by kernel_rfl)
  simp only [h1, h2, h3, Option.bind_some, h4, h5, gangwaylaw17_num.f, if_true]

/-- One round: whatever is asked, the next one is asked. -/
theorem round (k : Nat) (l : List S24) (i : Int) (h0 : 0 ≤ i) (hl : i < (l.length : Int)) (h30 : i < 30) :
    ∃ k', k ≤ k' ∧ gangwaylaw17_RightsLaws.l0 (k + 34) l i = gangwaylaw17_RightsLaws.l0 k' l (wrap64 (i + 1)) := by
  simp only [gangwaylaw17_RightsLaws.l0]
  rw [if_pos hl]
  simp only [gangwaylaw17_RightsLaws.j1]
  rw [decide_eq_true h30, if_pos rfl, if_pos h0, if_pos hl]
  generalize rd_T24 l i = p
  obtain ⟨a, b, c, e⟩ := p
  simp only [within_f, Option.bind_some, gangwaylaw17_num.f]
  have h00 : mayB 0 = true := rfl
  rw [h00]
  cases ha : mayB a
  · simp only [Bool.false_and, Bool.true_and, Bool.false_eq_true, if_false, if_true]
    rw [if_neg (by decide)]
    simp only [gangwaylaw17_RightsLaws.j2, gangwaylaw17_num.f, Option.bind_some]
    rw [if_neg (by decide), if_neg (by decide)]
    exact ⟨k + 31, by omega, rfl⟩
  · obtain ⟨na, rfl, hna⟩ := may_nat ha
    have hs : (Go.bits .andNot .i64 (na : Int) (na : Int) == 0) = true := by rw [within_bits na na hna, allB_self]
    have hz : (Go.bits .andNot .i64 0 (na : Int) == 0) = true := by
      have := within_bits 0 na (by decide)
      rw [allB_zero] at this
      exact this
    simp only [Bool.and_self, if_true, hs, hz]
    cases hb : mayB b
    · simp only [Bool.and_false, Bool.false_eq_true, if_false]
      simp only [gangwaylaw17_RightsLaws.j2, gangwaylaw17_num.f, Option.bind_some]
      rw [if_neg (by decide), if_neg (by decide)]
      exact ⟨k + 31, by omega, rfl⟩
    · obtain ⟨nb, rfl, hnb⟩ := may_nat hb
      simp only [Bool.and_self, if_true]
      simp only [gangwaylaw17_RightsLaws.j2, gangwaylaw17_num.f, Option.bind_some]
      rw [if_neg (by decide), if_pos trivial]
      have := inner 30 (k + 31) l i (Go.bits .andNot .i64 (na : Int) (nb : Int) == 0) 0 na nb c e (by omega) (by omega) hna hnb (within_bits na nb hna)
      exact ⟨k, Nat.le_refl _, by simpa [allB] using this⟩

theorem ends (d : Nat) : ∀ (k : Nat) (l : List S24) (i : Int), 0 ≤ i → i ≤ 30 → 30 - i = d → 34 * d + 62 ≤ k → gangwaylaw17_RightsLaws.l0 k l i = some true := by
  induction d with
  | zero =>
    intro k l i h0 h1 hd hk
    obtain ⟨k, rfl⟩ : ∃ m, k = m + 2 := ⟨k - 2, by omega⟩
    have hi : ¬ i < 30 := by omega
    simp only [gangwaylaw17_RightsLaws.l0, gangwaylaw17_RightsLaws.j1, decide_eq_false hi]
    split <;> (rw [if_neg (by simp)]; exact tail_at k (by omega))
  | succ d ih =>
    intro k l i h0 h1 hd hk
    by_cases hl : i < (l.length : Int)
    · obtain ⟨k, rfl⟩ : ∃ m, k = m + 34 := ⟨k - 34, by omega⟩
      obtain ⟨k', hk', e⟩ := round k l i h0 hl (by omega)
      rw [e]
      have : wrap64 (i + 1) = i + 1 := by unfold wrap64; omega
      rw [this]
      exact ih k' l (i + 1) (by omega) (by omega) (by omega) (by omega)
    · obtain ⟨k, rfl⟩ : ∃ m, k = m + 2 := ⟨k - 2, by omega⟩
      simp only [gangwaylaw17_RightsLaws.l0, gangwaylaw17_RightsLaws.j1]
      rw [if_neg hl, if_neg (by simp)]
      exact tail_at k (by omega)

theorem pure (l : List (S24)) (_h : ok22 l) : ∃ k, gangwaylaw17_RightsLaws.f k l = some true :=
  ⟨1200, ends 30 1200 l 0 (by omega) (by omega) (by omega) (by omega)⟩

end Go.Proofs.Ytbmfnmlpjgancaa.PRightsLaws
