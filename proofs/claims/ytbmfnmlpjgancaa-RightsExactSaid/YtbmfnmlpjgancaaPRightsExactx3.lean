-- By hook.py of this repo (the kit's print.py over a print with method values as calls)
import Derived.Test.YtbmfnmlpjgancaaPRightsExactx0
import Derived.Test.YtbmfnmlpjgancaaPRightsExactx1
import Derived.Test.YtbmfnmlpjgancaaPRightsExactx2
namespace Go.Proofs.Ytbmfnmlpjgancaa.PRightsExact
open Go.RowKit Go.Proofs.YtbmfnmlpjgancaaW.PrintWords Go.Proofs.YtbmfnmlpjgancaaW.PrintLast Go.Proofs.YtbmfnmlpjgancaaW.PrintMore
attribute [local go_sem] max2_int min2_int max_two min_two max_three min_three max_four min_four   -- for this text's walks alone
set_option linter.unusedVariables false
set_option linter.unusedSimpArgs false

/-! ### gangwaylaw17_RightsExact: function 3 -/
mutual
def gangwaylaw17_RightsExact.l0 : Nat → List (S24) → Int → Option (Bool)
  | 0, _, _ => none
  | k + 1, x0, x3 => if x3 < (x0.length : Int) then (gangwaylaw17_RightsExact.j1 k x0 x3 (decide (x3 < 30))) else (gangwaylaw17_RightsExact.j1 k x0 x3 false)
def gangwaylaw17_RightsExact.j1 : Nat → List (S24) → Int → Bool → Option (Bool)
  | 0, _, _, _ => none
  | k + 1, x0, x3, x23 => if x23 = true then (if 0 ≤ x3 then (if x3 < (x0.length : Int) then ((gangwayref17_May.f ((rd_T24 x0 x3).f0)).bind fun t149 => (if t149 = true then ((gangwayref17_May.f ((rd_T24 x0 x3).f1)).bind fun t150 => (gangwaylaw17_RightsExact.j2 k x0 x3 t149 t150 ((rd_T24 x0 x3).f0) ((rd_T24 x0 x3).f1) ((rd_T24 x0 x3).f2) ((rd_T24 x0 x3).f3))) else (gangwaylaw17_RightsExact.j2 k x0 x3 t149 false ((rd_T24 x0 x3).f0) ((rd_T24 x0 x3).f1) ((rd_T24 x0 x3).f2) ((rd_T24 x0 x3).f3)))) else (none)) else (none)) else ((gangwaylaw17_wakes.f k).bind fun t146 => (some t146))
def gangwaylaw17_RightsExact.j2 : Nat → List (S24) → Int → Bool → Bool → Int → Int → Int → Int → Option (Bool)
  | 0, _, _, _, _, _, _, _, _ => none
  | k + 1, x0, x3, x5, x6, x149000, x149001, x149002, x149003 => if x5 = true then (if x149002 ≥ 0 then (gangwaylaw17_RightsExact.j3 k x0 x3 x6 (decide (x149002 ≤ 29)) x149000 x149001 x149002 x149003) else (gangwaylaw17_RightsExact.j3 k x0 x3 x6 false x149000 x149001 x149002 x149003)) else (gangwaylaw17_RightsExact.j3 k x0 x3 x6 false x149000 x149001 x149002 x149003)
def gangwaylaw17_RightsExact.j3 : Nat → List (S24) → Int → Bool → Bool → Int → Int → Int → Int → Option (Bool)
  | 0, _, _, _, _, _, _, _, _ => none
  | k + 1, x0, x3, x6, x7, x149000, x149001, x149002, x149003 => (rights_Has.f x149000 x149002).bind fun bt151 => ((gangwaylaw17_num.f bt151.2).bind fun t153 => (if (x7 != (t153 == 0)) = true then (gangwaylaw17_RightsExact.j4 k x0 x3 x6 true x149000 x149001 x149002 x149003) else (if x7 = true then (if 0 ≤ x149002 then (gangwaylaw17_RightsExact.j4 k x0 x3 x6 (bt151.1 != ((Go.bits .and .i64 (shr .i64 x149000 x149002) 1) == 1)) x149000 x149001 x149002 x149003) else (none)) else ((gangwaylaw17_num.f bt151.2).bind fun t154 => (if t154 = 100 then (gangwaylaw17_RightsExact.j4 k x0 x3 x6 (bt151.1 != false) x149000 x149001 x149002 x149003) else (gangwaylaw17_RightsExact.j4 k x0 x3 x6 true x149000 x149001 x149002 x149003))))))
def gangwaylaw17_RightsExact.j4 : Nat → List (S24) → Int → Bool → Bool → Int → Int → Int → Int → Option (Bool)
  | 0, _, _, _, _, _, _, _, _ => none
  | k + 1, x0, x3, x6, x85, x149000, x149001, x149002, x149003 => if x85 = true then (some false) else ((rights_Within.f x149000 x149001).bind fun bt155 => ((gangwaylaw17_num.f bt155.2).bind fun t157 => (if (x6 != (t157 == 0)) = true then (gangwaylaw17_RightsExact.j5 k x0 x3 true x149000 x149001 x149002 x149003) else (if x6 = true then ((gangwayref17_Within.f x149000 x149001).bind fun t158 => (gangwaylaw17_RightsExact.j5 k x0 x3 (bt155.1 != t158) x149000 x149001 x149002 x149003)) else ((gangwaylaw17_num.f bt155.2).bind fun t159 => (if t159 = 100 then (gangwaylaw17_RightsExact.j5 k x0 x3 (bt155.1 != false) x149000 x149001 x149002 x149003) else (gangwaylaw17_RightsExact.j5 k x0 x3 true x149000 x149001 x149002 x149003)))))))
def gangwaylaw17_RightsExact.j5 : Nat → List (S24) → Int → Bool → Int → Int → Int → Int → Option (Bool)
  | 0, _, _, _, _, _, _, _ => none
  | k + 1, x0, x3, x119, x149000, x149001, x149002, x149003 => if x119 = true then (some false) else ((rights_Base.f k x149003).bind fun bt160 => ((rights_Inherit.f k x149003).bind fun bt162 => ((gangwayref17_Kind.f x149003).bind fun t164 => (if t164 = true then ((gangwaylaw17_num.f bt160.2).bind fun t165 => (if t165 = 0 then ((gangwaylaw17_num.f bt162.2).bind fun t166 => (if t166 = 0 then ((gangwayref17_Base.f k x149003).bind fun t167 => (if bt160.1 = t167 then ((gangwayref17_Inherit.f k x149003).bind fun t168 => (if bt162.1 = t168 then (gangwaylaw17_RightsExact.l0 k x0 (wrap64 (x3 + 1))) else (some false))) else (some false))) else (some false))) else (some false))) else ((gangwaylaw17_num.f bt160.2).bind fun t169 => (if t169 = 100 then ((gangwaylaw17_num.f bt162.2).bind fun t170 => (if t170 = 100 then (if bt160.1 = 0 then (if bt162.1 = 0 then (gangwaylaw17_RightsExact.l0 k x0 (wrap64 (x3 + 1))) else (some false)) else (some false)) else (some false))) else (some false)))))))
end
def gangwaylaw17_RightsExact.f (k : Nat) (l0 : List (S24)) : Option (Bool) := gangwaylaw17_RightsExact.l0 k l0 0
theorem gangwaylaw17_RightsExact.mono_l : ∀ k, (∀ y0 y1, LeO (gangwaylaw17_RightsExact.l0 k y0 y1) (gangwaylaw17_RightsExact.l0 (k + 1) y0 y1)) ∧ (∀ y0 y1 y2, LeO (gangwaylaw17_RightsExact.j1 k y0 y1 y2) (gangwaylaw17_RightsExact.j1 (k + 1) y0 y1 y2)) ∧ (∀ y0 y1 y2 y3 y4 y5 y6 y7, LeO (gangwaylaw17_RightsExact.j2 k y0 y1 y2 y3 y4 y5 y6 y7) (gangwaylaw17_RightsExact.j2 (k + 1) y0 y1 y2 y3 y4 y5 y6 y7)) ∧ (∀ y0 y1 y2 y3 y4 y5 y6 y7, LeO (gangwaylaw17_RightsExact.j3 k y0 y1 y2 y3 y4 y5 y6 y7) (gangwaylaw17_RightsExact.j3 (k + 1) y0 y1 y2 y3 y4 y5 y6 y7)) ∧ (∀ y0 y1 y2 y3 y4 y5 y6 y7, LeO (gangwaylaw17_RightsExact.j4 k y0 y1 y2 y3 y4 y5 y6 y7) (gangwaylaw17_RightsExact.j4 (k + 1) y0 y1 y2 y3 y4 y5 y6 y7)) ∧ (∀ y0 y1 y2 y3 y4 y5 y6, LeO (gangwaylaw17_RightsExact.j5 k y0 y1 y2 y3 y4 y5 y6) (gangwaylaw17_RightsExact.j5 (k + 1) y0 y1 y2 y3 y4 y5 y6))
  | 0 => ⟨fun _ _ r h => by simp [gangwaylaw17_RightsExact.l0] at h, fun _ _ _ r h => by simp [gangwaylaw17_RightsExact.j1] at h, fun _ _ _ _ _ _ _ _ r h => by simp [gangwaylaw17_RightsExact.j2] at h, fun _ _ _ _ _ _ _ _ r h => by simp [gangwaylaw17_RightsExact.j3] at h, fun _ _ _ _ _ _ _ _ r h => by simp [gangwaylaw17_RightsExact.j4] at h, fun _ _ _ _ _ _ _ r h => by simp [gangwaylaw17_RightsExact.j5] at h⟩
  | k + 1 => by
    obtain ⟨ih0, ih1, ih2, ih3, ih4, ih5⟩ := gangwaylaw17_RightsExact.mono_l k
    refine ⟨?_, ?_, ?_, ?_, ?_, ?_⟩
    · intro y0 y1
      unfold gangwaylaw17_RightsExact.l0
      repeat' first
      | (with_reducible exact ih0 _ _)
      | (with_reducible exact ih1 _ _ _)
      | (with_reducible exact ih2 _ _ _ _ _ _ _ _)
      | (with_reducible exact ih3 _ _ _ _ _ _ _ _)
      | (with_reducible exact ih4 _ _ _ _ _ _ _ _)
      | (with_reducible exact ih5 _ _ _ _ _ _ _)
      | (with_reducible exact gangwaylaw17_wakes.mono _)
      | (with_reducible exact gangwayref17_Base.mono _ _)
      | (with_reducible exact gangwayref17_Inherit.mono _ _)
      | (with_reducible exact rights_Base.mono _ _)
      | (with_reducible exact rights_Inherit.mono _ _)
      | (with_reducible exact LeO.refl _)
      | (with_reducible exact LeO.none _)
      | (with_reducible refine LeO.ite ?_ ?_)
      | (with_reducible refine LeO.bind ?_ (fun _ => ?_))
      | exact ih0 _ _
      | exact ih1 _ _ _
      | exact ih2 _ _ _ _ _ _ _ _
      | exact ih3 _ _ _ _ _ _ _ _
      | exact ih4 _ _ _ _ _ _ _ _
      | exact ih5 _ _ _ _ _ _ _
      | exact gangwaylaw17_wakes.mono _
      | exact gangwayref17_Base.mono _ _
      | exact gangwayref17_Inherit.mono _ _
      | exact rights_Base.mono _ _
      | exact rights_Inherit.mono _ _
      | exact LeO.none _
      | refine LeO.ite ?_ ?_
      | refine LeO.bind ?_ (fun _ => ?_)
    · intro y0 y1 y2
      unfold gangwaylaw17_RightsExact.j1
      repeat' first
      | (with_reducible exact ih0 _ _)
      | (with_reducible exact ih1 _ _ _)
      | (with_reducible exact ih2 _ _ _ _ _ _ _ _)
      | (with_reducible exact ih3 _ _ _ _ _ _ _ _)
      | (with_reducible exact ih4 _ _ _ _ _ _ _ _)
      | (with_reducible exact ih5 _ _ _ _ _ _ _)
      | (with_reducible exact gangwaylaw17_wakes.mono _)
      | (with_reducible exact gangwayref17_Base.mono _ _)
      | (with_reducible exact gangwayref17_Inherit.mono _ _)
      | (with_reducible exact rights_Base.mono _ _)
      | (with_reducible exact rights_Inherit.mono _ _)
      | (with_reducible exact LeO.refl _)
      | (with_reducible exact LeO.none _)
      | (with_reducible refine LeO.ite ?_ ?_)
      | (with_reducible refine LeO.bind ?_ (fun _ => ?_))
      | exact ih0 _ _
      | exact ih1 _ _ _
      | exact ih2 _ _ _ _ _ _ _ _
      | exact ih3 _ _ _ _ _ _ _ _
      | exact ih4 _ _ _ _ _ _ _ _
      | exact ih5 _ _ _ _ _ _ _
      | exact gangwaylaw17_wakes.mono _
      | exact gangwayref17_Base.mono _ _
      | exact gangwayref17_Inherit.mono _ _
      | exact rights_Base.mono _ _
      | exact rights_Inherit.mono _ _
      | exact LeO.none _
      | refine LeO.ite ?_ ?_
      | refine LeO.bind ?_ (fun _ => ?_)
    · intro y0 y1 y2 y3 y4 y5 y6 y7
      unfold gangwaylaw17_RightsExact.j2
      repeat' first
      | (with_reducible exact ih0 _ _)
      | (with_reducible exact ih1 _ _ _)
      | (with_reducible exact ih2 _ _ _ _ _ _ _ _)
      | (with_reducible exact ih3 _ _ _ _ _ _ _ _)
      | (with_reducible exact ih4 _ _ _ _ _ _ _ _)
      | (with_reducible exact ih5 _ _ _ _ _ _ _)
      | (with_reducible exact gangwaylaw17_wakes.mono _)
      | (with_reducible exact gangwayref17_Base.mono _ _)
      | (with_reducible exact gangwayref17_Inherit.mono _ _)
      | (with_reducible exact rights_Base.mono _ _)
      | (with_reducible exact rights_Inherit.mono _ _)
      | (with_reducible exact LeO.refl _)
      | (with_reducible exact LeO.none _)
      | (with_reducible refine LeO.ite ?_ ?_)
      | (with_reducible refine LeO.bind ?_ (fun _ => ?_))
      | exact ih0 _ _
      | exact ih1 _ _ _
      | exact ih2 _ _ _ _ _ _ _ _
      | exact ih3 _ _ _ _ _ _ _ _
      | exact ih4 _ _ _ _ _ _ _ _
      | exact ih5 _ _ _ _ _ _ _
      | exact gangwaylaw17_wakes.mono _
      | exact gangwayref17_Base.mono _ _
      | exact gangwayref17_Inherit.mono _ _
      | exact rights_Base.mono _ _
      | exact rights_Inherit.mono _ _
      | exact LeO.none _
      | refine LeO.ite ?_ ?_
      | refine LeO.bind ?_ (fun _ => ?_)
    · intro y0 y1 y2 y3 y4 y5 y6 y7
      unfold gangwaylaw17_RightsExact.j3
      repeat' first
      | (with_reducible exact ih0 _ _)
      | (with_reducible exact ih1 _ _ _)
      | (with_reducible exact ih2 _ _ _ _ _ _ _ _)
      | (with_reducible exact ih3 _ _ _ _ _ _ _ _)
      | (with_reducible exact ih4 _ _ _ _ _ _ _ _)
      | (with_reducible exact ih5 _ _ _ _ _ _ _)
      | (with_reducible exact gangwaylaw17_wakes.mono _)
      | (with_reducible exact gangwayref17_Base.mono _ _)
      | (with_reducible exact gangwayref17_Inherit.mono _ _)
      | (with_reducible exact rights_Base.mono _ _)
      | (with_reducible exact rights_Inherit.mono _ _)
      | (with_reducible exact LeO.refl _)
      | (with_reducible exact LeO.none _)
      | (with_reducible refine LeO.ite ?_ ?_)
      | (with_reducible refine LeO.bind ?_ (fun _ => ?_))
      | exact ih0 _ _
      | exact ih1 _ _ _
      | exact ih2 _ _ _ _ _ _ _ _
      | exact ih3 _ _ _ _ _ _ _ _
      | exact ih4 _ _ _ _ _ _ _ _
      | exact ih5 _ _ _ _ _ _ _
      | exact gangwaylaw17_wakes.mono _
      | exact gangwayref17_Base.mono _ _
      | exact gangwayref17_Inherit.mono _ _
      | exact rights_Base.mono _ _
      | exact rights_Inherit.mono _ _
      | exact LeO.none _
      | refine LeO.ite ?_ ?_
      | refine LeO.bind ?_ (fun _ => ?_)
    · intro y0 y1 y2 y3 y4 y5 y6 y7
      unfold gangwaylaw17_RightsExact.j4
      repeat' first
      | (with_reducible exact ih0 _ _)
      | (with_reducible exact ih1 _ _ _)
      | (with_reducible exact ih2 _ _ _ _ _ _ _ _)
      | (with_reducible exact ih3 _ _ _ _ _ _ _ _)
      | (with_reducible exact ih4 _ _ _ _ _ _ _ _)
      | (with_reducible exact ih5 _ _ _ _ _ _ _)
      | (with_reducible exact gangwaylaw17_wakes.mono _)
      | (with_reducible exact gangwayref17_Base.mono _ _)
      | (with_reducible exact gangwayref17_Inherit.mono _ _)
      | (with_reducible exact rights_Base.mono _ _)
      | (with_reducible exact rights_Inherit.mono _ _)
      | (with_reducible exact LeO.refl _)
      | (with_reducible exact LeO.none _)
      | (with_reducible refine LeO.ite ?_ ?_)
      | (with_reducible refine LeO.bind ?_ (fun _ => ?_))
      | exact ih0 _ _
      | exact ih1 _ _ _
      | exact ih2 _ _ _ _ _ _ _ _
      | exact ih3 _ _ _ _ _ _ _ _
      | exact ih4 _ _ _ _ _ _ _ _
      | exact ih5 _ _ _ _ _ _ _
      | exact gangwaylaw17_wakes.mono _
      | exact gangwayref17_Base.mono _ _
      | exact gangwayref17_Inherit.mono _ _
      | exact rights_Base.mono _ _
      | exact rights_Inherit.mono _ _
      | exact LeO.none _
      | refine LeO.ite ?_ ?_
      | refine LeO.bind ?_ (fun _ => ?_)
    · intro y0 y1 y2 y3 y4 y5 y6
      unfold gangwaylaw17_RightsExact.j5
      repeat' first
      | (with_reducible exact ih0 _ _)
      | (with_reducible exact ih1 _ _ _)
      | (with_reducible exact ih2 _ _ _ _ _ _ _ _)
      | (with_reducible exact ih3 _ _ _ _ _ _ _ _)
      | (with_reducible exact ih4 _ _ _ _ _ _ _ _)
      | (with_reducible exact ih5 _ _ _ _ _ _ _)
      | (with_reducible exact gangwaylaw17_wakes.mono _)
      | (with_reducible exact gangwayref17_Base.mono _ _)
      | (with_reducible exact gangwayref17_Inherit.mono _ _)
      | (with_reducible exact rights_Base.mono _ _)
      | (with_reducible exact rights_Inherit.mono _ _)
      | (with_reducible exact LeO.refl _)
      | (with_reducible exact LeO.none _)
      | (with_reducible refine LeO.ite ?_ ?_)
      | (with_reducible refine LeO.bind ?_ (fun _ => ?_))
      | exact ih0 _ _
      | exact ih1 _ _ _
      | exact ih2 _ _ _ _ _ _ _ _
      | exact ih3 _ _ _ _ _ _ _ _
      | exact ih4 _ _ _ _ _ _ _ _
      | exact ih5 _ _ _ _ _ _ _
      | exact gangwaylaw17_wakes.mono _
      | exact gangwayref17_Base.mono _ _
      | exact gangwayref17_Inherit.mono _ _
      | exact rights_Base.mono _ _
      | exact rights_Inherit.mono _ _
      | exact LeO.none _
      | refine LeO.ite ?_ ?_
      | refine LeO.bind ?_ (fun _ => ?_)
theorem gangwaylaw17_RightsExact.mono : ∀ a0 k, LeO (gangwaylaw17_RightsExact.f k a0) (gangwaylaw17_RightsExact.f (k + 1) a0) := by
  intro a0 k
  obtain ⟨ih0, ih1, ih2, ih3, ih4, ih5⟩ := gangwaylaw17_RightsExact.mono_l k
  unfold gangwaylaw17_RightsExact.f
  repeat' first
      | (with_reducible exact ih0 _ _)
      | (with_reducible exact ih1 _ _ _)
      | (with_reducible exact ih2 _ _ _ _ _ _ _ _)
      | (with_reducible exact ih3 _ _ _ _ _ _ _ _)
      | (with_reducible exact ih4 _ _ _ _ _ _ _ _)
      | (with_reducible exact ih5 _ _ _ _ _ _ _)
      | (with_reducible exact gangwaylaw17_wakes.mono _)
      | (with_reducible exact gangwayref17_Base.mono _ _)
      | (with_reducible exact gangwayref17_Inherit.mono _ _)
      | (with_reducible exact rights_Base.mono _ _)
      | (with_reducible exact rights_Inherit.mono _ _)
      | (with_reducible exact LeO.refl _)
      | (with_reducible exact LeO.none _)
      | (with_reducible refine LeO.ite ?_ ?_)
      | (with_reducible refine LeO.bind ?_ (fun _ => ?_))
      | exact ih0 _ _
      | exact ih1 _ _ _
      | exact ih2 _ _ _ _ _ _ _ _
      | exact ih3 _ _ _ _ _ _ _ _
      | exact ih4 _ _ _ _ _ _ _ _
      | exact ih5 _ _ _ _ _ _ _
      | exact gangwaylaw17_wakes.mono _
      | exact gangwayref17_Base.mono _ _
      | exact gangwayref17_Inherit.mono _ _
      | exact rights_Base.mono _ _
      | exact rights_Inherit.mono _ _
      | exact LeO.none _
      | refine LeO.ite ?_ ?_
      | refine LeO.bind ?_ (fun _ => ?_)
set_option maxHeartbeats 8000000 in
set_option maxRecDepth 100000 in
theorem gangwaylaw17_RightsExact.calls (k : Nat) (A0 : Option Addr) (c0 : Nat) (l0 : List (S24)) (r : Bool) (w : World) (hr0 : Kd.C k24 w A0 l0.length l0) (hc0 : l0.length ≤ c0) (h : gangwaylaw17_RightsExact.f k l0 = some r) :
    Calls Try.prog 3 #[.slice A0 l0.length c0] w fun e w' => e = .returned (.bool r) ∧ Below w.heap.size w w' := by
  have hu24 := Try.underlying24
  have HR0 := Aside0.mk hr0
  have HC0 := Aside0.mk hc0
  clear hr0 hc0
  have HB := Aside0.mk (Below.refl w.heap.size w)
  have H : (gangwaylaw17_RightsExact.l0 k l0 0) = some r := h
  clear h
  have H' := Aside0.mk H
  clear H
  go_enter Try.func3, Try.ntmps3
  go_wp2
  go_loopg [3] k (fun kq v3 w' => ∃ (x3_1 : Int), v3 = .int .i64 x3_1 ∧ Aside0 (gangwaylaw17_RightsExact.l0 kq l0 x3_1 = some r) ∧ Aside0 (kq ≤ k) ∧ Aside0 (Below w.heap.size w w'))
  case atStart => exact ⟨(0), (by first | rfl | (simp; done) | (simp [*]; done)), H', ⟨Nat.le_refl _⟩, ⟨by repeat (first | (with_reducible first | exact HB.out | apply below_alloc | apply pw_below_drewN | apply below_drew1) | exact HB.out)⟩⟩
  case round =>
    clear H'
    obtain ⟨x3_1, rfl, HA, HK1, HB⟩ := hrel
    cases gk with
    | zero => exact absurd HA.out (by simp [gangwaylaw17_RightsExact.l0])
    | succ k1 =>
      have H := HA.out
      clear HA
      simp only [gangwaylaw17_RightsExact.l0] at H
      have HC2 := Aside0.mk H
      clear H
      go_upto_region 2 with (fail)
      go_cut [23] (fun v23 wc => ∃ (kq : Nat) (x23_1 : Bool), v23 = .bool x23_1 ∧ Aside0 (gangwaylaw17_RightsExact.j1 kq l0 x3_1 x23_1 = some r) ∧ Aside0 (kq ≤ k1) ∧ Aside0 (Below w.heap.size w wc))
      case first =>
        have H := HC2.out
        clear HC2
        by_cases c3 : x3_1 < (l0.length : Int)
        · as_aux_lemma =>
            rw [if_pos c3] at H
            have c3b0 : decide (x3_1 < (l0.length : Int)) = true := decide_eq_true c3
            clear c3
            (first | rw [c3b0] | (simp only [i64_w, i32_w]; rw [c3b0]) | skip)
            have H' := Aside0.mk H
            clear H
            go_wp2
            go_meet
            case rel => exact ⟨_, (decide (x3_1 < 30)), (by first | rfl | (simp; done) | (simp [*]; done)), H', ⟨by have := HK1.out; first | omega | exact Nat.le_refl _⟩, ⟨by repeat (first | (with_reducible first | exact HB.out | apply below_alloc | apply pw_below_drewN | apply below_drew1) | exact HB.out)⟩⟩
        · as_aux_lemma =>
            rw [if_neg c3] at H
            have c3b0 : decide (x3_1 < (l0.length : Int)) = false := decide_eq_false c3
            clear c3
            (first | rw [c3b0] | (simp only [i64_w, i32_w]; rw [c3b0]) | skip)
            have H' := Aside0.mk H
            clear H
            go_wp2
            go_meet
            case rel => exact ⟨_, (false), (by first | rfl | (simp; done) | (simp [*]; done)), H', ⟨by have := HK1.out; first | omega | exact Nat.le_refl _⟩, ⟨by repeat (first | (with_reducible first | exact HB.out | apply below_alloc | apply pw_below_drewN | apply below_drew1) | exact HB.out)⟩⟩
      case rest =>
        clear HC2
        try clear p2
        try clear c3
        try clear c3b0
        obtain ⟨kq, x23_1, rfl, HA, HJ1, HB⟩ := hcut
        cases kq with
        | zero => exact absurd HA.out (by simp [gangwaylaw17_RightsExact.j1])
        | succ kj1 =>
          have H := HA.out
          clear HA
          simp only [gangwaylaw17_RightsExact.j1] at H
          by_cases c4 : x23_1 = true
          · subst c4
            have H1 : (if 0 ≤ x3_1 then (if x3_1 < (l0.length : Int) then ((gangwayref17_May.f ((rd_T24 l0 x3_1).f0)).bind fun t149 => (if t149 = true then ((gangwayref17_May.f ((rd_T24 l0 x3_1).f1)).bind fun t150 => (gangwaylaw17_RightsExact.j2 kj1 l0 x3_1 t149 t150 ((rd_T24 l0 x3_1).f0) ((rd_T24 l0 x3_1).f1) ((rd_T24 l0 x3_1).f2) ((rd_T24 l0 x3_1).f3))) else (gangwaylaw17_RightsExact.j2 kj1 l0 x3_1 t149 false ((rd_T24 l0 x3_1).f0) ((rd_T24 l0 x3_1).f1) ((rd_T24 l0 x3_1).f2) ((rd_T24 l0 x3_1).f3)))) else (none)) else (none)) = some r := by rw [if_pos rfl] at H; exact H
            clear H
            have H := H1
            clear H1
            by_cases c5 : 0 ≤ x3_1
            · rw [if_pos c5] at H
              have c5b0 : decide (0 ≤ x3_1) = true := decide_eq_true c5
              clear c5
              by_cases c6 : x3_1 < (l0.length : Int)
              · rw [if_pos c6] at H
                have c6b0 : decide (x3_1 < (l0.length : Int)) = true := decide_eq_true c6
                clear c6
                replace H := Option.bind_eq_some_iff.mp H
                obtain ⟨t149, A70, H⟩ := H
                replace H : (if t149 = true then ((gangwayref17_May.f ((rd_T24 l0 x3_1).f1)).bind fun t150 => (gangwaylaw17_RightsExact.j2 kj1 l0 x3_1 t149 t150 ((rd_T24 l0 x3_1).f0) ((rd_T24 l0 x3_1).f1) ((rd_T24 l0 x3_1).f2) ((rd_T24 l0 x3_1).f3))) else (gangwaylaw17_RightsExact.j2 kj1 l0 x3_1 t149 false ((rd_T24 l0 x3_1).f0) ((rd_T24 l0 x3_1).f1) ((rd_T24 l0 x3_1).f2) ((rd_T24 l0 x3_1).f3))) = some r := H
                have A7 := Aside0.mk A70
                clear A70
                have HC8 := Aside0.mk H
                clear H
                have p147 : 0 ≤ (x3_1 : Int) := of_decide_eq_true (by first | (with_reducible assumption) | assumption)
                have q147 : x3_1 < (l0.length : Int) := of_decide_eq_true (by first | (with_reducible assumption) | assumption)
                obtain ⟨ad147, e147, hx147_0, hx147_1, hx147_2, hx147_3⟩ := at_T24 HR0.out x3_1 p147 q147
                cases e147
                replace hx147_0 := (HB.out.cell (World.block_lt_of_cell? w _ hx147_0)).trans hx147_0
                replace hx147_1 := (HB.out.cell (World.block_lt_of_cell? w _ hx147_1)).trans hx147_1
                replace hx147_2 := (HB.out.cell (World.block_lt_of_cell? w _ hx147_2)).trans hx147_2
                replace hx147_3 := (HB.out.cell (World.block_lt_of_cell? w _ hx147_3)).trans hx147_3
                replace p147 := eq_true p147
                replace q147 := eq_true q147
                go_upto_region 6 with (first | ((with_reducible refine gate_dst (N := 4) rfl ?_); refine box_event ?hg (N := 4) ?hd (cs := #[.int .i64 0, .int .i64 0, .int .i64 0, .int .i64 0]) (t := 24) ?hr ?_; (case hd => rfl); (case hg => rfl); (case hr => first | (go_simp; done) | (go_simp; rfl)); intro gb148 hg w9 hbox hb; have n0_ := Aside0.mk (below_step (by repeat (first | (with_reducible first | exact HB.out | apply below_alloc | apply pw_below_drewN | apply below_drew1) | exact HB.out)) hb); have n1_ := Aside0.mk (hbox); have n2_ := Aside0.mk ((by rw [hg]; exact (below_size (by repeat (first | (with_reducible first | exact HB.out | apply below_alloc | apply pw_below_drewN | apply below_drew1) | exact HB.out))) : w.heap.size ≤ gb148)); have n3_ := Aside0.mk ((by rw [hg]; exact (below_size (by repeat (first | (with_reducible first | exact HB.out | apply below_alloc | apply pw_below_drewN | apply below_drew1) | exact HB.out))) : w.heap.size ≤ gb148)); clear HB; have HB := n0_; have BK148 := n1_; have GW148 := n2_; have GE148 := n3_; clear n0_ n1_ n2_ n3_; clear hb hbox hg; have hcz10_0 : w9.cell? ⟨gb148, 0, none⟩ = some (.int .i64 0) := (blk_cell BK148.out 0).trans rfl; have hcz10_1 : w9.cell? ⟨gb148, 1, none⟩ = some (.int .i64 0) := (blk_cell BK148.out 1).trans rfl; have hcz10_2 : w9.cell? ⟨gb148, 2, none⟩ = some (.int .i64 0) := (blk_cell BK148.out 2).trans rfl; have hcz10_3 : w9.cell? ⟨gb148, 3, none⟩ = some (.int .i64 0) := (blk_cell BK148.out 3).trans rfl; have hfz10_0 := blk_frozen BK148.out 0; have hfz10_1 := blk_frozen BK148.out 1; have hfz10_2 := blk_frozen BK148.out 2; have hfz10_3 := blk_frozen BK148.out 3) | ((with_reducible refine gate_callee (f := 6) rfl ?_); refine goesL_ (some 32) rfl rfl Try.func6 (by kernel_rfl) rfl #[.int .i64 ((rd_T24 l0 x3_1).f0)] rfl (by (try simp only [List.map_toArray, List.map_cons, List.map_nil]); first | done | rfl | (simp only [List.length_drop, List.length_take]; rfl)) ?_; (with_reducible refine (gangwayref17_May.calls ((rd_T24 l0 x3_1).f0) t149 _ A7.out).mono ?_); rintro e w' ⟨rfl, ⟨nd, rfl⟩⟩; refine ⟨_, rfl, ?_⟩))
                (try simp only [Act.put, List.setIfInBounds_toArray, List.set_cons_zero, List.set_cons_succ])
                go_cut [6] (fun v6 wc => ∃ (kq : Nat) (x6_7 : Bool), v6 = .bool x6_7 ∧ Aside0 (gangwaylaw17_RightsExact.j2 kq l0 x3_1 t149 x6_7 ((rd_T24 l0 x3_1).f0) ((rd_T24 l0 x3_1).f1) ((rd_T24 l0 x3_1).f2) ((rd_T24 l0 x3_1).f3) = some r) ∧ Aside0 (kq ≤ kj1) ∧ Aside0 (wc.heap[gb148]? = some (.cells #[.int .i64 ((rd_T24 l0 x3_1).f0), .int .i64 ((rd_T24 l0 x3_1).f1), .int .i64 ((rd_T24 l0 x3_1).f2), .int .i64 ((rd_T24 l0 x3_1).f3)] 24 (0, 0))) ∧ Aside0 (Below w.heap.size w wc))
                case first =>
                  have H := HC8.out
                  clear HC8
                  by_cases c11 : t149 = true
                  · as_aux_lemma =>
                      subst c11
                      have H1 : ((gangwayref17_May.f ((rd_T24 l0 x3_1).f1)).bind fun t150 => (gangwaylaw17_RightsExact.j2 kj1 l0 x3_1 true t150 ((rd_T24 l0 x3_1).f0) ((rd_T24 l0 x3_1).f1) ((rd_T24 l0 x3_1).f2) ((rd_T24 l0 x3_1).f3))) = some r := by rw [if_pos rfl] at H; exact H
                      clear H
                      have H := H1
                      clear H1
                      replace H := Option.bind_eq_some_iff.mp H
                      obtain ⟨t150, A120, H⟩ := H
                      replace H : (gangwaylaw17_RightsExact.j2 kj1 l0 x3_1 true t150 ((rd_T24 l0 x3_1).f0) ((rd_T24 l0 x3_1).f1) ((rd_T24 l0 x3_1).f2) ((rd_T24 l0 x3_1).f3)) = some r := H
                      have A12 := Aside0.mk A120
                      clear A120
                      have H' := Aside0.mk H
                      clear H
                      have hcz13_0 : w9.cell? ⟨gb148, 0, none⟩ = some (.int .i64 0) := (blk_cell BK148.out 0).trans rfl
                      have hcz13_1 : w9.cell? ⟨gb148, 1, none⟩ = some (.int .i64 0) := (blk_cell BK148.out 1).trans rfl
                      have hcz13_2 : w9.cell? ⟨gb148, 2, none⟩ = some (.int .i64 0) := (blk_cell BK148.out 2).trans rfl
                      have hcz13_3 : w9.cell? ⟨gb148, 3, none⟩ = some (.int .i64 0) := (blk_cell BK148.out 3).trans rfl
                      have hfz13_0 := blk_frozen BK148.out 0
                      have hfz13_1 := blk_frozen BK148.out 1
                      have hfz13_2 := blk_frozen BK148.out 2
                      have hfz13_3 := blk_frozen BK148.out 3
                      go_wp2_with (first | (go_at_call 6; (with_reducible refine (gangwayref17_May.calls ((rd_T24 l0 x3_1).f1) t150 _ A12.out).mono ?_); rintro e w' ⟨rfl, ⟨nd, rfl⟩⟩))
                      go_meet
                      case rel => exact ⟨_, (t150), (by first | rfl | (simp; done) | (simp [*]; done)), H', ⟨by have := HK1.out; have := HJ1.out; first | omega | exact Nat.le_refl _⟩, ⟨by (with_reducible repeat (first | refine blk_drewN ?_ _ | refine blk_drew ?_ | refine blk_alloc ?_ _)); refine blk_put (cs := #[.int .i64 ((rd_T24 l0 x3_1).f0), .int .i64 ((rd_T24 l0 x3_1).f1), .int .i64 ((rd_T24 l0 x3_1).f2), .int .i64 0]) ?_ 3 _ rfl; (with_reducible repeat (first | refine blk_drewN ?_ _ | refine blk_drew ?_ | refine blk_alloc ?_ _)); refine blk_put (cs := #[.int .i64 ((rd_T24 l0 x3_1).f0), .int .i64 ((rd_T24 l0 x3_1).f1), .int .i64 0, .int .i64 0]) ?_ 2 _ rfl; (with_reducible repeat (first | refine blk_drewN ?_ _ | refine blk_drew ?_ | refine blk_alloc ?_ _)); refine blk_put (cs := #[.int .i64 ((rd_T24 l0 x3_1).f0), .int .i64 0, .int .i64 0, .int .i64 0]) ?_ 1 _ rfl; (with_reducible repeat (first | refine blk_drewN ?_ _ | refine blk_drew ?_ | refine blk_alloc ?_ _)); refine blk_put (cs := #[.int .i64 0, .int .i64 0, .int .i64 0, .int .i64 0]) ?_ 0 _ rfl; (with_reducible repeat (first | refine blk_drewN ?_ _ | refine blk_drew ?_ | refine blk_alloc ?_ _)); exact BK148.out⟩, ⟨by repeat (first | (with_reducible first | exact HB.out | apply below_alloc | apply pw_below_drewN | apply below_drew1 | refine below_set ?_ GE148.out) | exact HB.out)⟩⟩
                  · as_aux_lemma =>
                      replace c11 := Bool.eq_false_iff.mpr c11
                      subst c11
                      have H1 : (gangwaylaw17_RightsExact.j2 kj1 l0 x3_1 false false ((rd_T24 l0 x3_1).f0) ((rd_T24 l0 x3_1).f1) ((rd_T24 l0 x3_1).f2) ((rd_T24 l0 x3_1).f3)) = some r := by rw [if_neg (show ¬ (false = true) by decide)] at H; exact H
                      clear H
                      have H := H1
                      clear H1
                      have H' := Aside0.mk H
                      clear H
                      go_wp2
                      go_meet
                      case rel => exact ⟨_, (false), (by first | rfl | (simp; done) | (simp [*]; done)), H', ⟨by have := HK1.out; have := HJ1.out; first | omega | exact Nat.le_refl _⟩, ⟨by (with_reducible repeat (first | refine blk_drewN ?_ _ | refine blk_drew ?_ | refine blk_alloc ?_ _)); refine blk_put (cs := #[.int .i64 ((rd_T24 l0 x3_1).f0), .int .i64 ((rd_T24 l0 x3_1).f1), .int .i64 ((rd_T24 l0 x3_1).f2), .int .i64 0]) ?_ 3 _ rfl; (with_reducible repeat (first | refine blk_drewN ?_ _ | refine blk_drew ?_ | refine blk_alloc ?_ _)); refine blk_put (cs := #[.int .i64 ((rd_T24 l0 x3_1).f0), .int .i64 ((rd_T24 l0 x3_1).f1), .int .i64 0, .int .i64 0]) ?_ 2 _ rfl; (with_reducible repeat (first | refine blk_drewN ?_ _ | refine blk_drew ?_ | refine blk_alloc ?_ _)); refine blk_put (cs := #[.int .i64 ((rd_T24 l0 x3_1).f0), .int .i64 0, .int .i64 0, .int .i64 0]) ?_ 1 _ rfl; (with_reducible repeat (first | refine blk_drewN ?_ _ | refine blk_drew ?_ | refine blk_alloc ?_ _)); refine blk_put (cs := #[.int .i64 0, .int .i64 0, .int .i64 0, .int .i64 0]) ?_ 0 _ rfl; (with_reducible repeat (first | refine blk_drewN ?_ _ | refine blk_drew ?_ | refine blk_alloc ?_ _)); exact BK148.out⟩, ⟨by repeat (first | (with_reducible first | exact HB.out | apply below_alloc | apply pw_below_drewN | apply below_drew1 | refine below_set ?_ GE148.out) | exact HB.out)⟩⟩
                case rest =>
                  clear HC8
                  try clear c1
                  try clear p1
                  try clear q1
                  try clear hx1
                  try clear p2
                  try clear c3
                  try clear c3b0
                  try clear c4
                  try clear c5
                  try clear c5b0
                  try clear c6
                  try clear c6b0
                  try clear c11
                  try clear hcz10_0
                  try clear hcz10_1
                  try clear hcz10_2
                  try clear hcz10_3
                  try clear hcz13_0
                  try clear hcz13_1
                  try clear hcz13_2
                  try clear hcz13_3
                  try clear hfz10_0
                  try clear hfz10_1
                  try clear hfz10_2
                  try clear hfz10_3
                  try clear hfz13_0
                  try clear hfz13_1
                  try clear hfz13_2
                  try clear hfz13_3
                  try clear hx147_0
                  try clear hx147_1
                  try clear hx147_2
                  try clear hx147_3
                  try clear p147
                  try clear p2
                  try clear q147
                  obtain ⟨kq, x6_7, rfl, HA, HJ7, BK148, HB⟩ := hcut
                  cases kq with
                  | zero => exact absurd HA.out (by simp [gangwaylaw17_RightsExact.j2])
                  | succ kj7 =>
                    have H := HA.out
                    clear HA
                    simp only [gangwaylaw17_RightsExact.j2] at H
                    have HC14 := Aside0.mk H
                    clear H
                    go_upto_region 7 with (fail)
                    go_cut [7] (fun v7 wc => ∃ (kq : Nat) (x7_13 : Bool), v7 = .bool x7_13 ∧ Aside0 (gangwaylaw17_RightsExact.j3 kq l0 x3_1 x6_7 x7_13 ((rd_T24 l0 x3_1).f0) ((rd_T24 l0 x3_1).f1) ((rd_T24 l0 x3_1).f2) ((rd_T24 l0 x3_1).f3) = some r) ∧ Aside0 (kq ≤ kj7) ∧ Aside0 (wc.heap[gb148]? = some (.cells #[.int .i64 ((rd_T24 l0 x3_1).f0), .int .i64 ((rd_T24 l0 x3_1).f1), .int .i64 ((rd_T24 l0 x3_1).f2), .int .i64 ((rd_T24 l0 x3_1).f3)] 24 (0, 0))) ∧ Aside0 (Below w.heap.size w wc))
                    case first =>
                      have H := HC14.out
                      clear HC14
                      by_cases c15 : t149 = true
                      · subst c15
                        have H1 : (if ((rd_T24 l0 x3_1).f2) ≥ 0 then (gangwaylaw17_RightsExact.j3 kj7 l0 x3_1 x6_7 (decide (((rd_T24 l0 x3_1).f2) ≤ 29)) ((rd_T24 l0 x3_1).f0) ((rd_T24 l0 x3_1).f1) ((rd_T24 l0 x3_1).f2) ((rd_T24 l0 x3_1).f3)) else (gangwaylaw17_RightsExact.j3 kj7 l0 x3_1 x6_7 false ((rd_T24 l0 x3_1).f0) ((rd_T24 l0 x3_1).f1) ((rd_T24 l0 x3_1).f2) ((rd_T24 l0 x3_1).f3))) = some r := by rw [if_pos rfl] at H; exact H
                        clear H
                        have H := H1
                        clear H1
                        by_cases c16 : ((rd_T24 l0 x3_1).f2) ≥ 0
                        · as_aux_lemma =>
                            rw [if_pos c16] at H
                            have c16b0 : decide (0 ≤ ((rd_T24 l0 x3_1).f2)) = true := decide_eq_true c16
                            clear c16
                            (first | rw [c16b0] | (simp only [i64_w, i32_w]; rw [c16b0]) | skip)
                            have H' := Aside0.mk H
                            clear H
                            have hcz17_0 : wc.cell? ⟨gb148, 0, none⟩ = some (.int .i64 ((rd_T24 l0 x3_1).f0)) := (blk_cell BK148.out 0).trans rfl
                            have hcz17_1 : wc.cell? ⟨gb148, 1, none⟩ = some (.int .i64 ((rd_T24 l0 x3_1).f1)) := (blk_cell BK148.out 1).trans rfl
                            have hcz17_2 : wc.cell? ⟨gb148, 2, none⟩ = some (.int .i64 ((rd_T24 l0 x3_1).f2)) := (blk_cell BK148.out 2).trans rfl
                            have hcz17_3 : wc.cell? ⟨gb148, 3, none⟩ = some (.int .i64 ((rd_T24 l0 x3_1).f3)) := (blk_cell BK148.out 3).trans rfl
                            have hfz17_0 := blk_frozen BK148.out 0
                            have hfz17_1 := blk_frozen BK148.out 1
                            have hfz17_2 := blk_frozen BK148.out 2
                            have hfz17_3 := blk_frozen BK148.out 3
                            go_wp2
                            go_meet
                            case rel => exact ⟨_, (decide (((rd_T24 l0 x3_1).f2) ≤ 29)), (by first | rfl | (simp; done) | (simp [*]; done)), H', ⟨by have := HK1.out; have := HJ1.out; have := HJ7.out; first | omega | exact Nat.le_refl _⟩, ⟨by (with_reducible repeat (first | refine blk_drewN ?_ _ | refine blk_drew ?_ | refine blk_alloc ?_ _)); exact BK148.out⟩, ⟨by repeat (first | (with_reducible first | exact HB.out | apply below_alloc | apply pw_below_drewN | apply below_drew1 | refine below_set ?_ GE148.out) | exact HB.out)⟩⟩
                        · as_aux_lemma =>
                            rw [if_neg c16] at H
                            have c16b0 : decide (0 ≤ ((rd_T24 l0 x3_1).f2)) = false := decide_eq_false c16
                            clear c16
                            (first | rw [c16b0] | (simp only [i64_w, i32_w]; rw [c16b0]) | skip)
                            have H' := Aside0.mk H
                            clear H
                            have hcz18_0 : wc.cell? ⟨gb148, 0, none⟩ = some (.int .i64 ((rd_T24 l0 x3_1).f0)) := (blk_cell BK148.out 0).trans rfl
                            have hcz18_1 : wc.cell? ⟨gb148, 1, none⟩ = some (.int .i64 ((rd_T24 l0 x3_1).f1)) := (blk_cell BK148.out 1).trans rfl
                            have hcz18_2 : wc.cell? ⟨gb148, 2, none⟩ = some (.int .i64 ((rd_T24 l0 x3_1).f2)) := (blk_cell BK148.out 2).trans rfl
                            have hcz18_3 : wc.cell? ⟨gb148, 3, none⟩ = some (.int .i64 ((rd_T24 l0 x3_1).f3)) := (blk_cell BK148.out 3).trans rfl
                            have hfz18_0 := blk_frozen BK148.out 0
                            have hfz18_1 := blk_frozen BK148.out 1
                            have hfz18_2 := blk_frozen BK148.out 2
                            have hfz18_3 := blk_frozen BK148.out 3
                            go_wp2
                            go_meet
                            case rel => exact ⟨_, (false), (by first | rfl | (simp; done) | (simp [*]; done)), H', ⟨by have := HK1.out; have := HJ1.out; have := HJ7.out; first | omega | exact Nat.le_refl _⟩, ⟨by (with_reducible repeat (first | refine blk_drewN ?_ _ | refine blk_drew ?_ | refine blk_alloc ?_ _)); exact BK148.out⟩, ⟨by repeat (first | (with_reducible first | exact HB.out | apply below_alloc | apply pw_below_drewN | apply below_drew1 | refine below_set ?_ GE148.out) | exact HB.out)⟩⟩
                      · as_aux_lemma =>
                          replace c15 := Bool.eq_false_iff.mpr c15
                          subst c15
                          have H1 : (gangwaylaw17_RightsExact.j3 kj7 l0 x3_1 x6_7 false ((rd_T24 l0 x3_1).f0) ((rd_T24 l0 x3_1).f1) ((rd_T24 l0 x3_1).f2) ((rd_T24 l0 x3_1).f3)) = some r := by rw [if_neg (show ¬ (false = true) by decide)] at H; exact H
                          clear H
                          have H := H1
                          clear H1
                          have H' := Aside0.mk H
                          clear H
                          go_wp2
                          go_meet
                          case rel => exact ⟨_, (false), (by first | rfl | (simp; done) | (simp [*]; done)), H', ⟨by have := HK1.out; have := HJ1.out; have := HJ7.out; first | omega | exact Nat.le_refl _⟩, ⟨by (with_reducible repeat (first | refine blk_drewN ?_ _ | refine blk_drew ?_ | refine blk_alloc ?_ _)); exact BK148.out⟩, ⟨by repeat (first | (with_reducible first | exact HB.out | apply below_alloc | apply pw_below_drewN | apply below_drew1 | refine below_set ?_ GE148.out) | exact HB.out)⟩⟩
                    case rest =>
                      clear HC14
                      try clear c1
                      try clear p1
                      try clear q1
                      try clear hx1
                      try clear p2
                      try clear c3
                      try clear c3b0
                      try clear c4
                      try clear c5
                      try clear c5b0
                      try clear c6
                      try clear c6b0
                      try clear c11
                      try clear p14
                      try clear q14
                      try clear hx14
                      try clear c15
                      try clear c16
                      try clear c16b0
                      try clear hcz10_0
                      try clear hcz10_1
                      try clear hcz10_2
                      try clear hcz10_3
                      try clear hcz13_0
                      try clear hcz13_1
                      try clear hcz13_2
                      try clear hcz13_3
                      try clear hcz17_0
                      try clear hcz17_1
                      try clear hcz17_2
                      try clear hcz17_3
                      try clear hcz18_0
                      try clear hcz18_1
                      try clear hcz18_2
                      try clear hcz18_3
                      try clear hfz10_0
                      try clear hfz10_1
                      try clear hfz10_2
                      try clear hfz10_3
                      try clear hfz13_0
                      try clear hfz13_1
                      try clear hfz13_2
                      try clear hfz13_3
                      try clear hfz17_0
                      try clear hfz17_1
                      try clear hfz17_2
                      try clear hfz17_3
                      try clear hfz18_0
                      try clear hfz18_1
                      try clear hfz18_2
                      try clear hfz18_3
                      try clear hx147_0
                      try clear hx147_1
                      try clear hx147_2
                      try clear hx147_3
                      try clear p1
                      try clear p147
                      try clear p2
                      try clear q1
                      try clear q147
                      obtain ⟨kq, x7_13, rfl, HA, HJ13, BK148, HB⟩ := hcut
                      cases kq with
                      | zero => exact absurd HA.out (by simp [gangwaylaw17_RightsExact.j3])
                      | succ kj13 =>
                        have H := HA.out
                        clear HA
                        simp only [gangwaylaw17_RightsExact.j3] at H
                        replace H := Option.bind_eq_some_iff.mp H
                        obtain ⟨⟨t151, t152⟩, A190, H⟩ := H
                        replace H : ((gangwaylaw17_num.f t152).bind fun t153 => (if (x7_13 != (t153 == 0)) = true then (gangwaylaw17_RightsExact.j4 kj13 l0 x3_1 x6_7 true ((rd_T24 l0 x3_1).f0) ((rd_T24 l0 x3_1).f1) ((rd_T24 l0 x3_1).f2) ((rd_T24 l0 x3_1).f3)) else (if x7_13 = true then (if 0 ≤ ((rd_T24 l0 x3_1).f2) then (gangwaylaw17_RightsExact.j4 kj13 l0 x3_1 x6_7 (t151 != ((Go.bits .and .i64 (shr .i64 ((rd_T24 l0 x3_1).f0) ((rd_T24 l0 x3_1).f2)) 1) == 1)) ((rd_T24 l0 x3_1).f0) ((rd_T24 l0 x3_1).f1) ((rd_T24 l0 x3_1).f2) ((rd_T24 l0 x3_1).f3)) else (none)) else ((gangwaylaw17_num.f t152).bind fun t154 => (if t154 = 100 then (gangwaylaw17_RightsExact.j4 kj13 l0 x3_1 x6_7 (t151 != false) ((rd_T24 l0 x3_1).f0) ((rd_T24 l0 x3_1).f1) ((rd_T24 l0 x3_1).f2) ((rd_T24 l0 x3_1).f3)) else (gangwaylaw17_RightsExact.j4 kj13 l0 x3_1 x6_7 true ((rd_T24 l0 x3_1).f0) ((rd_T24 l0 x3_1).f1) ((rd_T24 l0 x3_1).f2) ((rd_T24 l0 x3_1).f3))))))) = some r := H
                        have A19 := Aside0.mk A190
                        clear A190
                        have HC20 := Aside0.mk H
                        clear H
                        have hcz21_0 : wc.cell? ⟨gb148, 0, none⟩ = some (.int .i64 ((rd_T24 l0 x3_1).f0)) := (blk_cell BK148.out 0).trans rfl
                        have hcz21_1 : wc.cell? ⟨gb148, 1, none⟩ = some (.int .i64 ((rd_T24 l0 x3_1).f1)) := (blk_cell BK148.out 1).trans rfl
                        have hcz21_2 : wc.cell? ⟨gb148, 2, none⟩ = some (.int .i64 ((rd_T24 l0 x3_1).f2)) := (blk_cell BK148.out 2).trans rfl
                        have hcz21_3 : wc.cell? ⟨gb148, 3, none⟩ = some (.int .i64 ((rd_T24 l0 x3_1).f3)) := (blk_cell BK148.out 3).trans rfl
                        have hfz21_0 := blk_frozen BK148.out 0
                        have hfz21_1 := blk_frozen BK148.out 1
                        have hfz21_2 := blk_frozen BK148.out 2
                        have hfz21_3 := blk_frozen BK148.out 3
                        go_upto_region 9 with (first | ((with_reducible refine gate_callee (f := 7) rfl ?_); refine goesL_ (some 55) rfl rfl Try.func7 (by kernel_rfl) rfl #[.int .i64 ((rd_T24 l0 x3_1).f0), .int .i64 ((rd_T24 l0 x3_1).f2)] rfl (by (try simp only [List.map_toArray, List.map_cons, List.map_nil]); first | done | rfl | (simp only [List.length_drop, List.length_take]; rfl)) ?_; (with_reducible refine (rights_Has.calls ((rd_T24 l0 x3_1).f0) ((rd_T24 l0 x3_1).f2) t151 t152 _ A19.out).mono ?_); rintro e w' ⟨rfl, ⟨nd, rfl⟩⟩; refine ⟨_, rfl, ?_⟩))
                        (try simp only [Act.put, List.setIfInBounds_toArray, List.set_cons_zero, List.set_cons_succ])
                        go_cut [85] (fun v85 wc => ∃ (kq : Nat) (x85_19 : Bool), v85 = .bool x85_19 ∧ Aside0 (gangwaylaw17_RightsExact.j4 kq l0 x3_1 x6_7 x85_19 ((rd_T24 l0 x3_1).f0) ((rd_T24 l0 x3_1).f1) ((rd_T24 l0 x3_1).f2) ((rd_T24 l0 x3_1).f3) = some r) ∧ Aside0 (kq ≤ kj13) ∧ Aside0 (wc.heap[gb148]? = some (.cells #[.int .i64 ((rd_T24 l0 x3_1).f0), .int .i64 ((rd_T24 l0 x3_1).f1), .int .i64 ((rd_T24 l0 x3_1).f2), .int .i64 ((rd_T24 l0 x3_1).f3)] 24 (0, 0))) ∧ Aside0 (Below w.heap.size w wc))
                        case first =>
                          have H := HC20.out
                          clear HC20
                          replace H := Option.bind_eq_some_iff.mp H
                          obtain ⟨t153, A220, H⟩ := H
                          replace H : (if (x7_13 != (t153 == 0)) = true then (gangwaylaw17_RightsExact.j4 kj13 l0 x3_1 x6_7 true ((rd_T24 l0 x3_1).f0) ((rd_T24 l0 x3_1).f1) ((rd_T24 l0 x3_1).f2) ((rd_T24 l0 x3_1).f3)) else (if x7_13 = true then (if 0 ≤ ((rd_T24 l0 x3_1).f2) then (gangwaylaw17_RightsExact.j4 kj13 l0 x3_1 x6_7 (t151 != ((Go.bits .and .i64 (shr .i64 ((rd_T24 l0 x3_1).f0) ((rd_T24 l0 x3_1).f2)) 1) == 1)) ((rd_T24 l0 x3_1).f0) ((rd_T24 l0 x3_1).f1) ((rd_T24 l0 x3_1).f2) ((rd_T24 l0 x3_1).f3)) else (none)) else ((gangwaylaw17_num.f t152).bind fun t154 => (if t154 = 100 then (gangwaylaw17_RightsExact.j4 kj13 l0 x3_1 x6_7 (t151 != false) ((rd_T24 l0 x3_1).f0) ((rd_T24 l0 x3_1).f1) ((rd_T24 l0 x3_1).f2) ((rd_T24 l0 x3_1).f3)) else (gangwaylaw17_RightsExact.j4 kj13 l0 x3_1 x6_7 true ((rd_T24 l0 x3_1).f0) ((rd_T24 l0 x3_1).f1) ((rd_T24 l0 x3_1).f2) ((rd_T24 l0 x3_1).f3)))))) = some r := H
                          have A22 := Aside0.mk A220
                          clear A220
                          by_cases c23 : (x7_13 != (t153 == 0)) = true
                          · as_aux_lemma =>
                              rw [if_pos c23] at H
                              have c23b0 : (x7_13 != (t153 == 0)) = true := c23
                              (try (have c23b1 : decide (x7_13 = (t153 == 0)) = false := by simpa using c23))
                              (try (have c23b2 : (x7_13 == (t153 == 0)) = false := by simpa using c23))
                              (try (have c23b3 : ¬ (x7_13 = (t153 == 0)) := by simpa using c23))
                              clear c23
                              (first | rw [c23b0] | (simp only [i64_w, i32_w]; rw [c23b0]) | skip)
                              have H' := Aside0.mk H
                              clear H
                              go_wp2_with (first | ((with_reducible refine gate_callee (f := 8) rfl ?_); refine goesL_ (some 60) rfl rfl Try.func8 (by kernel_rfl) rfl #[.int .i64 t152] rfl (by (try simp only [List.map_toArray, List.map_cons, List.map_nil]); first | done | rfl | (simp only [List.length_drop, List.length_take]; rfl)) ?_; (with_reducible refine (gangwaylaw17_num.calls t152 t153 _ A22.out).mono ?_); rintro e w' ⟨rfl, ⟨nd, rfl⟩⟩; refine ⟨_, rfl, ?_⟩))
                              go_meet
                              case rel => exact ⟨_, (true), (by first | rfl | (simp; done) | (simp [*]; done)), H', ⟨by have := HK1.out; have := HJ1.out; have := HJ7.out; have := HJ13.out; first | omega | exact Nat.le_refl _⟩, ⟨by (with_reducible repeat (first | refine blk_drewN ?_ _ | refine blk_drew ?_ | refine blk_alloc ?_ _)); exact BK148.out⟩, ⟨by repeat (first | (with_reducible first | exact HB.out | apply below_alloc | apply pw_below_drewN | apply below_drew1 | refine below_set ?_ GE148.out) | exact HB.out)⟩⟩
                          · rw [if_neg c23] at H
                            have c23b0 : (x7_13 != (t153 == 0)) = false := by simpa using c23
                            (try (have c23b1 : decide (x7_13 = (t153 == 0)) = true := by simpa using c23))
                            (try (have c23b2 : (x7_13 == (t153 == 0)) = true := by simpa using c23))
                            clear c23
                            (first | rw [c23b0] | (simp only [i64_w, i32_w]; rw [c23b0]) | skip)
                            by_cases c24 : x7_13 = true
                            · subst c24
                              have H1 : (if 0 ≤ ((rd_T24 l0 x3_1).f2) then (gangwaylaw17_RightsExact.j4 kj13 l0 x3_1 x6_7 (t151 != ((Go.bits .and .i64 (shr .i64 ((rd_T24 l0 x3_1).f0) ((rd_T24 l0 x3_1).f2)) 1) == 1)) ((rd_T24 l0 x3_1).f0) ((rd_T24 l0 x3_1).f1) ((rd_T24 l0 x3_1).f2) ((rd_T24 l0 x3_1).f3)) else (none)) = some r := by rw [if_pos rfl] at H; exact H
                              clear H
                              have H := H1
                              clear H1
                              by_cases c25 : 0 ≤ ((rd_T24 l0 x3_1).f2)
                              · as_aux_lemma =>
                                  rw [if_pos c25] at H
                                  have c25b0 := eq_true c25
                                  have c25b1 : decide (0 ≤ ((rd_T24 l0 x3_1).f2)) = true := decide_eq_true c25
                                  clear c25
                                  obtain ⟨ji26, hji26⟩ : ∃ j_ : Int, (shr .i64 ((rd_T24 l0 x3_1).f0) ((rd_T24 l0 x3_1).f2)) = j_ := ⟨_, rfl⟩
                                  replace H : (gangwaylaw17_RightsExact.j4 kj13 l0 x3_1 x6_7 (t151 != ((Go.bits .and .i64 (ji26) 1) == 1)) ((rd_T24 l0 x3_1).f0) ((rd_T24 l0 x3_1).f1) ((rd_T24 l0 x3_1).f2) ((rd_T24 l0 x3_1).f3)) = some r := by first | (rw [hji26] at H; exact H) | (simp only [hji26] at H ⊢; exact H)
                                  (try rw [hji26] at A22)
                                  have hji26_ : (((rd_T24 l0 x3_1).f0) / 2 ^ min ((rd_T24 l0 x3_1).f2).toNat 64) = ji26 := hji26
                                  have hji26z : ((rd_T24 l0 x3_1).f2) ≤ 64 → (((rd_T24 l0 x3_1).f0) / 2 ^ ((rd_T24 l0 x3_1).f2).toNat) = ji26 := shr_small hji26
                                  have H' := Aside0.mk H
                                  clear H
                                  go_wp2_with (first | ((with_reducible refine gate_callee (f := 8) rfl ?_); refine goesL_ (some 60) rfl rfl Try.func8 (by kernel_rfl) rfl #[.int .i64 t152] rfl (by (try simp only [List.map_toArray, List.map_cons, List.map_nil]); first | done | rfl | (simp only [List.length_drop, List.length_take]; rfl)) ?_; (with_reducible refine (gangwaylaw17_num.calls t152 t153 _ A22.out).mono ?_); rintro e w' ⟨rfl, ⟨nd, rfl⟩⟩; refine ⟨_, rfl, ?_⟩; have hcz27_0 : wc.cell? ⟨gb148, 0, none⟩ = some (.int .i64 ((rd_T24 l0 x3_1).f0)) := (blk_cell BK148.out 0).trans rfl; have hcz27_1 : wc.cell? ⟨gb148, 1, none⟩ = some (.int .i64 ((rd_T24 l0 x3_1).f1)) := (blk_cell BK148.out 1).trans rfl; have hcz27_2 : wc.cell? ⟨gb148, 2, none⟩ = some (.int .i64 ((rd_T24 l0 x3_1).f2)) := (blk_cell BK148.out 2).trans rfl; have hcz27_3 : wc.cell? ⟨gb148, 3, none⟩ = some (.int .i64 ((rd_T24 l0 x3_1).f3)) := (blk_cell BK148.out 3).trans rfl; have hfz27_0 := blk_frozen BK148.out 0; have hfz27_1 := blk_frozen BK148.out 1; have hfz27_2 := blk_frozen BK148.out 2; have hfz27_3 := blk_frozen BK148.out 3))
                                  go_meet
                                  case rel => exact ⟨_, ((t151 != ((Go.bits .and .i64 (ji26) 1) == 1))), (by first | rfl | (simp; done) | (simp only [← hji26] <;> (first | rfl | simp)) | (simp [*]; done)), H', ⟨by have := HK1.out; have := HJ1.out; have := HJ7.out; have := HJ13.out; first | omega | exact Nat.le_refl _⟩, ⟨by (with_reducible repeat (first | refine blk_drewN ?_ _ | refine blk_drew ?_ | refine blk_alloc ?_ _)); exact BK148.out⟩, ⟨by repeat (first | (with_reducible first | exact HB.out | apply below_alloc | apply pw_below_drewN | apply below_drew1 | refine below_set ?_ GE148.out) | exact HB.out)⟩⟩
                              · rw [if_neg c25] at H
                                exact absurd H (by simp)
                            · replace c24 := Bool.eq_false_iff.mpr c24
                              subst c24
                              have H1 : ((gangwaylaw17_num.f t152).bind fun t154 => (if t154 = 100 then (gangwaylaw17_RightsExact.j4 kj13 l0 x3_1 x6_7 (t151 != false) ((rd_T24 l0 x3_1).f0) ((rd_T24 l0 x3_1).f1) ((rd_T24 l0 x3_1).f2) ((rd_T24 l0 x3_1).f3)) else (gangwaylaw17_RightsExact.j4 kj13 l0 x3_1 x6_7 true ((rd_T24 l0 x3_1).f0) ((rd_T24 l0 x3_1).f1) ((rd_T24 l0 x3_1).f2) ((rd_T24 l0 x3_1).f3)))) = some r := by rw [if_neg (show ¬ (false = true) by decide)] at H; exact H
                              clear H
                              have H := H1
                              clear H1
                              replace H := Option.bind_eq_some_iff.mp H
                              obtain ⟨t154, A280, H⟩ := H
                              replace H : (if t154 = 100 then (gangwaylaw17_RightsExact.j4 kj13 l0 x3_1 x6_7 (t151 != false) ((rd_T24 l0 x3_1).f0) ((rd_T24 l0 x3_1).f1) ((rd_T24 l0 x3_1).f2) ((rd_T24 l0 x3_1).f3)) else (gangwaylaw17_RightsExact.j4 kj13 l0 x3_1 x6_7 true ((rd_T24 l0 x3_1).f0) ((rd_T24 l0 x3_1).f1) ((rd_T24 l0 x3_1).f2) ((rd_T24 l0 x3_1).f3))) = some r := H
                              have A28 := Aside0.mk A280
                              clear A280
                              by_cases c29 : t154 = 100
                              · as_aux_lemma =>
                                  rw [if_pos c29] at H
                                  have c29b0 : (t154 == 100) = true := beq_iff_eq.mpr c29
                                  have c29b1 : (t154 != 100) = false := bne_eq_false_iff_eq.mpr c29
                                  clear c29
                                  have H' := Aside0.mk H
                                  clear H
                                  go_wp2_with (first | ((with_reducible refine gate_callee (f := 8) rfl ?_); refine goesL_ (some 60) rfl rfl Try.func8 (by kernel_rfl) rfl #[.int .i64 t152] rfl (by (try simp only [List.map_toArray, List.map_cons, List.map_nil]); first | done | rfl | (simp only [List.length_drop, List.length_take]; rfl)) ?_; (with_reducible refine (gangwaylaw17_num.calls t152 t153 _ A22.out).mono ?_); rintro e w' ⟨rfl, ⟨nd, rfl⟩⟩; refine ⟨_, rfl, ?_⟩) | (go_at_call 8; (with_reducible refine (gangwaylaw17_num.calls t152 t154 _ A28.out).mono ?_); rintro e w' ⟨rfl, ⟨nd, rfl⟩⟩))
                                  go_meet
                                  case rel => exact ⟨_, ((t151 != false)), (by first | rfl | (simp; done) | (simp [*]; done)), H', ⟨by have := HK1.out; have := HJ1.out; have := HJ7.out; have := HJ13.out; first | omega | exact Nat.le_refl _⟩, ⟨by (with_reducible repeat (first | refine blk_drewN ?_ _ | refine blk_drew ?_ | refine blk_alloc ?_ _)); exact BK148.out⟩, ⟨by repeat (first | (with_reducible first | exact HB.out | apply below_alloc | apply pw_below_drewN | apply below_drew1 | refine below_set ?_ GE148.out) | exact HB.out)⟩⟩
                              · as_aux_lemma =>
                                  rw [if_neg c29] at H
                                  have c29b0 : (t154 == 100) = false := beq_eq_false_iff_ne.mpr c29
                                  have c29b1 : (t154 != 100) = true := bne_iff_ne.mpr c29
                                  have H' := Aside0.mk H
                                  clear H
                                  go_wp2_with (first | ((with_reducible refine gate_callee (f := 8) rfl ?_); refine goesL_ (some 60) rfl rfl Try.func8 (by kernel_rfl) rfl #[.int .i64 t152] rfl (by (try simp only [List.map_toArray, List.map_cons, List.map_nil]); first | done | rfl | (simp only [List.length_drop, List.length_take]; rfl)) ?_; (with_reducible refine (gangwaylaw17_num.calls t152 t153 _ A22.out).mono ?_); rintro e w' ⟨rfl, ⟨nd, rfl⟩⟩; refine ⟨_, rfl, ?_⟩) | (go_at_call 8; (with_reducible refine (gangwaylaw17_num.calls t152 t154 _ A28.out).mono ?_); rintro e w' ⟨rfl, ⟨nd, rfl⟩⟩))
                                  go_meet
                                  case rel => exact ⟨_, (true), (by first | rfl | (simp; done) | (simp [*]; done)), H', ⟨by have := HK1.out; have := HJ1.out; have := HJ7.out; have := HJ13.out; first | omega | exact Nat.le_refl _⟩, ⟨by (with_reducible repeat (first | refine blk_drewN ?_ _ | refine blk_drew ?_ | refine blk_alloc ?_ _)); exact BK148.out⟩, ⟨by repeat (first | (with_reducible first | exact HB.out | apply below_alloc | apply pw_below_drewN | apply below_drew1 | refine below_set ?_ GE148.out) | exact HB.out)⟩⟩
                        case rest =>
                          clear HC20
                          try clear c1
                          try clear p1
                          try clear q1
                          try clear hx1
                          try clear c2
                          try clear p2
                          try clear c3
                          try clear c3b0
                          try clear c4
                          try clear c5
                          try clear c5b0
                          try clear c6
                          try clear c6b0
                          try clear c7
                          try clear c8
                          try clear c11
                          try clear p14
                          try clear q14
                          try clear hx14
                          try clear c15
                          try clear c16
                          try clear c16b0
                          try clear c23
                          try clear c23b0
                          try clear c23b1
                          try clear c23b2
                          try clear c24
                          try clear c25
                          try clear c25b0
                          try clear c25b1
                          try clear c29
                          try clear c29b0
                          try clear c29b1
                          try clear hcz10_0
                          try clear hcz10_1
                          try clear hcz10_2
                          try clear hcz10_3
                          try clear hcz13_0
                          try clear hcz13_1
                          try clear hcz13_2
                          try clear hcz13_3
                          try clear hcz17_0
                          try clear hcz17_1
                          try clear hcz17_2
                          try clear hcz17_3
                          try clear hcz18_0
                          try clear hcz18_1
                          try clear hcz18_2
                          try clear hcz18_3
                          try clear hcz21_0
                          try clear hcz21_1
                          try clear hcz21_2
                          try clear hcz21_3
                          try clear hcz27_0
                          try clear hcz27_1
                          try clear hcz27_2
                          try clear hcz27_3
                          try clear hfz10_0
                          try clear hfz10_1
                          try clear hfz10_2
                          try clear hfz10_3
                          try clear hfz13_0
                          try clear hfz13_1
                          try clear hfz13_2
                          try clear hfz13_3
                          try clear hfz17_0
                          try clear hfz17_1
                          try clear hfz17_2
                          try clear hfz17_3
                          try clear hfz18_0
                          try clear hfz18_1
                          try clear hfz18_2
                          try clear hfz18_3
                          try clear hfz21_0
                          try clear hfz21_1
                          try clear hfz21_2
                          try clear hfz21_3
                          try clear hfz27_0
                          try clear hfz27_1
                          try clear hfz27_2
                          try clear hfz27_3
                          try clear hx147_0
                          try clear hx147_1
                          try clear hx147_2
                          try clear hx147_3
                          try clear p1
                          try clear p14
                          try clear p147
                          try clear p2
                          try clear q1
                          try clear q14
                          try clear q147
                          obtain ⟨kq, x85_19, rfl, HA, HJ19, BK148, HB⟩ := hcut
                          cases kq with
                          | zero => exact absurd HA.out (by simp [gangwaylaw17_RightsExact.j4])
                          | succ kj19 =>
                            have H := HA.out
                            clear HA
                            simp only [gangwaylaw17_RightsExact.j4] at H
                            by_cases c30 : x85_19 = true
                            · as_aux_lemma =>
                                subst c30
                                have H1 : (some false) = some r := by rw [if_pos rfl] at H; exact H
                                clear H
                                have H := H1
                                clear H1
                                obtain rfl := Option.some.inj H
                                go_wp2
                                go_ret
                                exact ⟨by first | rfl | (simp [errW_none, errW_some] <;> rfl) | (simp [*, errW_none, errW_some] <;> rfl), by repeat (first | (with_reducible first | exact HB.out | apply below_alloc | apply pw_below_drewN | apply below_drew1 | refine below_set ?_ GE148.out) | exact HB.out)⟩
                            · replace c30 := Bool.eq_false_iff.mpr c30
                              subst c30
                              have H1 : ((rights_Within.f ((rd_T24 l0 x3_1).f0) ((rd_T24 l0 x3_1).f1)).bind fun bt155 => ((gangwaylaw17_num.f bt155.2).bind fun t157 => (if (x6_7 != (t157 == 0)) = true then (gangwaylaw17_RightsExact.j5 kj19 l0 x3_1 true ((rd_T24 l0 x3_1).f0) ((rd_T24 l0 x3_1).f1) ((rd_T24 l0 x3_1).f2) ((rd_T24 l0 x3_1).f3)) else (if x6_7 = true then ((gangwayref17_Within.f ((rd_T24 l0 x3_1).f0) ((rd_T24 l0 x3_1).f1)).bind fun t158 => (gangwaylaw17_RightsExact.j5 kj19 l0 x3_1 (bt155.1 != t158) ((rd_T24 l0 x3_1).f0) ((rd_T24 l0 x3_1).f1) ((rd_T24 l0 x3_1).f2) ((rd_T24 l0 x3_1).f3))) else ((gangwaylaw17_num.f bt155.2).bind fun t159 => (if t159 = 100 then (gangwaylaw17_RightsExact.j5 kj19 l0 x3_1 (bt155.1 != false) ((rd_T24 l0 x3_1).f0) ((rd_T24 l0 x3_1).f1) ((rd_T24 l0 x3_1).f2) ((rd_T24 l0 x3_1).f3)) else (gangwaylaw17_RightsExact.j5 kj19 l0 x3_1 true ((rd_T24 l0 x3_1).f0) ((rd_T24 l0 x3_1).f1) ((rd_T24 l0 x3_1).f2) ((rd_T24 l0 x3_1).f3)))))))) = some r := by rw [if_neg (show ¬ (false = true) by decide)] at H; exact H
                              clear H
                              have H := H1
                              clear H1
                              replace H := Option.bind_eq_some_iff.mp H
                              obtain ⟨⟨t155, t156⟩, A310, H⟩ := H
                              replace H : ((gangwaylaw17_num.f t156).bind fun t157 => (if (x6_7 != (t157 == 0)) = true then (gangwaylaw17_RightsExact.j5 kj19 l0 x3_1 true ((rd_T24 l0 x3_1).f0) ((rd_T24 l0 x3_1).f1) ((rd_T24 l0 x3_1).f2) ((rd_T24 l0 x3_1).f3)) else (if x6_7 = true then ((gangwayref17_Within.f ((rd_T24 l0 x3_1).f0) ((rd_T24 l0 x3_1).f1)).bind fun t158 => (gangwaylaw17_RightsExact.j5 kj19 l0 x3_1 (t155 != t158) ((rd_T24 l0 x3_1).f0) ((rd_T24 l0 x3_1).f1) ((rd_T24 l0 x3_1).f2) ((rd_T24 l0 x3_1).f3))) else ((gangwaylaw17_num.f t156).bind fun t159 => (if t159 = 100 then (gangwaylaw17_RightsExact.j5 kj19 l0 x3_1 (t155 != false) ((rd_T24 l0 x3_1).f0) ((rd_T24 l0 x3_1).f1) ((rd_T24 l0 x3_1).f2) ((rd_T24 l0 x3_1).f3)) else (gangwaylaw17_RightsExact.j5 kj19 l0 x3_1 true ((rd_T24 l0 x3_1).f0) ((rd_T24 l0 x3_1).f1) ((rd_T24 l0 x3_1).f2) ((rd_T24 l0 x3_1).f3))))))) = some r := H
                              have A31 := Aside0.mk A310
                              clear A310
                              have HC32 := Aside0.mk H
                              clear H
                              have hcz33_0 : wc.cell? ⟨gb148, 0, none⟩ = some (.int .i64 ((rd_T24 l0 x3_1).f0)) := (blk_cell BK148.out 0).trans rfl
                              have hcz33_1 : wc.cell? ⟨gb148, 1, none⟩ = some (.int .i64 ((rd_T24 l0 x3_1).f1)) := (blk_cell BK148.out 1).trans rfl
                              have hcz33_2 : wc.cell? ⟨gb148, 2, none⟩ = some (.int .i64 ((rd_T24 l0 x3_1).f2)) := (blk_cell BK148.out 2).trans rfl
                              have hcz33_3 : wc.cell? ⟨gb148, 3, none⟩ = some (.int .i64 ((rd_T24 l0 x3_1).f3)) := (blk_cell BK148.out 3).trans rfl
                              have hfz33_0 := blk_frozen BK148.out 0
                              have hfz33_1 := blk_frozen BK148.out 1
                              have hfz33_2 := blk_frozen BK148.out 2
                              have hfz33_3 := blk_frozen BK148.out 3
                              go_upto_region 12 with (first | ((with_reducible refine gate_callee (f := 9) rfl ?_); refine goesL_ (some 91) rfl rfl Try.func9 (by kernel_rfl) rfl #[.int .i64 ((rd_T24 l0 x3_1).f0), .int .i64 ((rd_T24 l0 x3_1).f1)] rfl (by (try simp only [List.map_toArray, List.map_cons, List.map_nil]); first | done | rfl | (simp only [List.length_drop, List.length_take]; rfl)) ?_; (with_reducible refine (rights_Within.calls ((rd_T24 l0 x3_1).f0) ((rd_T24 l0 x3_1).f1) t155 t156 _ A31.out).mono ?_); rintro e w' ⟨rfl, ⟨nd, rfl⟩⟩; refine ⟨_, rfl, ?_⟩))
                              (try simp only [Act.put, List.setIfInBounds_toArray, List.set_cons_zero, List.set_cons_succ])
                              go_cut [119] (fun v119 wc => ∃ (kq : Nat) (x119_31 : Bool), v119 = .bool x119_31 ∧ Aside0 (gangwaylaw17_RightsExact.j5 kq l0 x3_1 x119_31 ((rd_T24 l0 x3_1).f0) ((rd_T24 l0 x3_1).f1) ((rd_T24 l0 x3_1).f2) ((rd_T24 l0 x3_1).f3) = some r) ∧ Aside0 (kq ≤ kj19) ∧ Aside0 (wc.heap[gb148]? = some (.cells #[.int .i64 ((rd_T24 l0 x3_1).f0), .int .i64 ((rd_T24 l0 x3_1).f1), .int .i64 ((rd_T24 l0 x3_1).f2), .int .i64 ((rd_T24 l0 x3_1).f3)] 24 (0, 0))) ∧ Aside0 (Below w.heap.size w wc))
                              case first =>
                                have H := HC32.out
                                clear HC32
                                replace H := Option.bind_eq_some_iff.mp H
                                obtain ⟨t157, A340, H⟩ := H
                                replace H : (if (x6_7 != (t157 == 0)) = true then (gangwaylaw17_RightsExact.j5 kj19 l0 x3_1 true ((rd_T24 l0 x3_1).f0) ((rd_T24 l0 x3_1).f1) ((rd_T24 l0 x3_1).f2) ((rd_T24 l0 x3_1).f3)) else (if x6_7 = true then ((gangwayref17_Within.f ((rd_T24 l0 x3_1).f0) ((rd_T24 l0 x3_1).f1)).bind fun t158 => (gangwaylaw17_RightsExact.j5 kj19 l0 x3_1 (t155 != t158) ((rd_T24 l0 x3_1).f0) ((rd_T24 l0 x3_1).f1) ((rd_T24 l0 x3_1).f2) ((rd_T24 l0 x3_1).f3))) else ((gangwaylaw17_num.f t156).bind fun t159 => (if t159 = 100 then (gangwaylaw17_RightsExact.j5 kj19 l0 x3_1 (t155 != false) ((rd_T24 l0 x3_1).f0) ((rd_T24 l0 x3_1).f1) ((rd_T24 l0 x3_1).f2) ((rd_T24 l0 x3_1).f3)) else (gangwaylaw17_RightsExact.j5 kj19 l0 x3_1 true ((rd_T24 l0 x3_1).f0) ((rd_T24 l0 x3_1).f1) ((rd_T24 l0 x3_1).f2) ((rd_T24 l0 x3_1).f3)))))) = some r := H
                                have A34 := Aside0.mk A340
                                clear A340
                                by_cases c35 : (x6_7 != (t157 == 0)) = true
                                · as_aux_lemma =>
                                    rw [if_pos c35] at H
                                    have c35b0 : (x6_7 != (t157 == 0)) = true := c35
                                    (try (have c35b1 : decide (x6_7 = (t157 == 0)) = false := by simpa using c35))
                                    (try (have c35b2 : (x6_7 == (t157 == 0)) = false := by simpa using c35))
                                    (try (have c35b3 : ¬ (x6_7 = (t157 == 0)) := by simpa using c35))
                                    clear c35
                                    (first | rw [c35b0] | (simp only [i64_w, i32_w]; rw [c35b0]) | skip)
                                    have H' := Aside0.mk H
                                    clear H
                                    go_wp2_with (first | ((with_reducible refine gate_callee (f := 8) rfl ?_); refine goesL_ (some 96) rfl rfl Try.func8 (by kernel_rfl) rfl #[.int .i64 t156] rfl (by (try simp only [List.map_toArray, List.map_cons, List.map_nil]); first | done | rfl | (simp only [List.length_drop, List.length_take]; rfl)) ?_; (with_reducible refine (gangwaylaw17_num.calls t156 t157 _ A34.out).mono ?_); rintro e w' ⟨rfl, ⟨nd, rfl⟩⟩; refine ⟨_, rfl, ?_⟩))
                                    go_meet
                                    case rel => exact ⟨_, (true), (by first | rfl | (simp; done) | (simp [*]; done)), H', ⟨by have := HK1.out; have := HJ1.out; have := HJ7.out; have := HJ13.out; have := HJ19.out; first | omega | exact Nat.le_refl _⟩, ⟨by (with_reducible repeat (first | refine blk_drewN ?_ _ | refine blk_drew ?_ | refine blk_alloc ?_ _)); exact BK148.out⟩, ⟨by repeat (first | (with_reducible first | exact HB.out | apply below_alloc | apply pw_below_drewN | apply below_drew1 | refine below_set ?_ GE148.out) | exact HB.out)⟩⟩
                                · rw [if_neg c35] at H
                                  have c35b0 : (x6_7 != (t157 == 0)) = false := by simpa using c35
                                  (try (have c35b1 : decide (x6_7 = (t157 == 0)) = true := by simpa using c35))
                                  (try (have c35b2 : (x6_7 == (t157 == 0)) = true := by simpa using c35))
                                  clear c35
                                  (first | rw [c35b0] | (simp only [i64_w, i32_w]; rw [c35b0]) | skip)
                                  by_cases c36 : x6_7 = true
                                  · as_aux_lemma =>
                                      subst c36
                                      have H1 : ((gangwayref17_Within.f ((rd_T24 l0 x3_1).f0) ((rd_T24 l0 x3_1).f1)).bind fun t158 => (gangwaylaw17_RightsExact.j5 kj19 l0 x3_1 (t155 != t158) ((rd_T24 l0 x3_1).f0) ((rd_T24 l0 x3_1).f1) ((rd_T24 l0 x3_1).f2) ((rd_T24 l0 x3_1).f3))) = some r := by rw [if_pos rfl] at H; exact H
                                      clear H
                                      have H := H1
                                      clear H1
                                      replace H := Option.bind_eq_some_iff.mp H
                                      obtain ⟨t158, A370, H⟩ := H
                                      replace H : (gangwaylaw17_RightsExact.j5 kj19 l0 x3_1 (t155 != t158) ((rd_T24 l0 x3_1).f0) ((rd_T24 l0 x3_1).f1) ((rd_T24 l0 x3_1).f2) ((rd_T24 l0 x3_1).f3)) = some r := H
                                      have A37 := Aside0.mk A370
                                      clear A370
                                      have H' := Aside0.mk H
                                      clear H
                                      go_wp2_with (first | ((with_reducible refine gate_callee (f := 8) rfl ?_); refine goesL_ (some 96) rfl rfl Try.func8 (by kernel_rfl) rfl #[.int .i64 t156] rfl (by (try simp only [List.map_toArray, List.map_cons, List.map_nil]); first | done | rfl | (simp only [List.length_drop, List.length_take]; rfl)) ?_; (with_reducible refine (gangwaylaw17_num.calls t156 t157 _ A34.out).mono ?_); rintro e w' ⟨rfl, ⟨nd, rfl⟩⟩; refine ⟨_, rfl, ?_⟩; have hcz38_0 : wc.cell? ⟨gb148, 0, none⟩ = some (.int .i64 ((rd_T24 l0 x3_1).f0)) := (blk_cell BK148.out 0).trans rfl; have hcz38_1 : wc.cell? ⟨gb148, 1, none⟩ = some (.int .i64 ((rd_T24 l0 x3_1).f1)) := (blk_cell BK148.out 1).trans rfl; have hcz38_2 : wc.cell? ⟨gb148, 2, none⟩ = some (.int .i64 ((rd_T24 l0 x3_1).f2)) := (blk_cell BK148.out 2).trans rfl; have hcz38_3 : wc.cell? ⟨gb148, 3, none⟩ = some (.int .i64 ((rd_T24 l0 x3_1).f3)) := (blk_cell BK148.out 3).trans rfl; have hfz38_0 := blk_frozen BK148.out 0; have hfz38_1 := blk_frozen BK148.out 1; have hfz38_2 := blk_frozen BK148.out 2; have hfz38_3 := blk_frozen BK148.out 3) | (go_at_call 10; (with_reducible refine (gangwayref17_Within.calls ((rd_T24 l0 x3_1).f0) ((rd_T24 l0 x3_1).f1) t158 _ A37.out).mono ?_); rintro e w' ⟨rfl, ⟨nd, rfl⟩⟩))
                                      go_meet
                                      case rel => exact ⟨_, ((t155 != t158)), (by first | rfl | (simp; done) | (simp [*]; done)), H', ⟨by have := HK1.out; have := HJ1.out; have := HJ7.out; have := HJ13.out; have := HJ19.out; first | omega | exact Nat.le_refl _⟩, ⟨by (with_reducible repeat (first | refine blk_drewN ?_ _ | refine blk_drew ?_ | refine blk_alloc ?_ _)); exact BK148.out⟩, ⟨by repeat (first | (with_reducible first | exact HB.out | apply below_alloc | apply pw_below_drewN | apply below_drew1 | refine below_set ?_ GE148.out) | exact HB.out)⟩⟩
                                  · replace c36 := Bool.eq_false_iff.mpr c36
                                    subst c36
                                    have H1 : ((gangwaylaw17_num.f t156).bind fun t159 => (if t159 = 100 then (gangwaylaw17_RightsExact.j5 kj19 l0 x3_1 (t155 != false) ((rd_T24 l0 x3_1).f0) ((rd_T24 l0 x3_1).f1) ((rd_T24 l0 x3_1).f2) ((rd_T24 l0 x3_1).f3)) else (gangwaylaw17_RightsExact.j5 kj19 l0 x3_1 true ((rd_T24 l0 x3_1).f0) ((rd_T24 l0 x3_1).f1) ((rd_T24 l0 x3_1).f2) ((rd_T24 l0 x3_1).f3)))) = some r := by rw [if_neg (show ¬ (false = true) by decide)] at H; exact H
                                    clear H
                                    have H := H1
                                    clear H1
                                    replace H := Option.bind_eq_some_iff.mp H
                                    obtain ⟨t159, A390, H⟩ := H
                                    replace H : (if t159 = 100 then (gangwaylaw17_RightsExact.j5 kj19 l0 x3_1 (t155 != false) ((rd_T24 l0 x3_1).f0) ((rd_T24 l0 x3_1).f1) ((rd_T24 l0 x3_1).f2) ((rd_T24 l0 x3_1).f3)) else (gangwaylaw17_RightsExact.j5 kj19 l0 x3_1 true ((rd_T24 l0 x3_1).f0) ((rd_T24 l0 x3_1).f1) ((rd_T24 l0 x3_1).f2) ((rd_T24 l0 x3_1).f3))) = some r := H
                                    have A39 := Aside0.mk A390
                                    clear A390
                                    by_cases c40 : t159 = 100
                                    · as_aux_lemma =>
                                        rw [if_pos c40] at H
                                        have c40b0 : (t159 == 100) = true := beq_iff_eq.mpr c40
                                        have c40b1 : (t159 != 100) = false := bne_eq_false_iff_eq.mpr c40
                                        clear c40
                                        have H' := Aside0.mk H
                                        clear H
                                        go_wp2_with (first | ((with_reducible refine gate_callee (f := 8) rfl ?_); refine goesL_ (some 96) rfl rfl Try.func8 (by kernel_rfl) rfl #[.int .i64 t156] rfl (by (try simp only [List.map_toArray, List.map_cons, List.map_nil]); first | done | rfl | (simp only [List.length_drop, List.length_take]; rfl)) ?_; (with_reducible refine (gangwaylaw17_num.calls t156 t157 _ A34.out).mono ?_); rintro e w' ⟨rfl, ⟨nd, rfl⟩⟩; refine ⟨_, rfl, ?_⟩) | (go_at_call 8; (with_reducible refine (gangwaylaw17_num.calls t156 t159 _ A39.out).mono ?_); rintro e w' ⟨rfl, ⟨nd, rfl⟩⟩))
                                        go_meet
                                        case rel => exact ⟨_, ((t155 != false)), (by first | rfl | (simp; done) | (simp [*]; done)), H', ⟨by have := HK1.out; have := HJ1.out; have := HJ7.out; have := HJ13.out; have := HJ19.out; first | omega | exact Nat.le_refl _⟩, ⟨by (with_reducible repeat (first | refine blk_drewN ?_ _ | refine blk_drew ?_ | refine blk_alloc ?_ _)); exact BK148.out⟩, ⟨by repeat (first | (with_reducible first | exact HB.out | apply below_alloc | apply pw_below_drewN | apply below_drew1 | refine below_set ?_ GE148.out) | exact HB.out)⟩⟩
                                    · as_aux_lemma =>
                                        rw [if_neg c40] at H
                                        have c40b0 : (t159 == 100) = false := beq_eq_false_iff_ne.mpr c40
                                        have c40b1 : (t159 != 100) = true := bne_iff_ne.mpr c40
                                        have H' := Aside0.mk H
                                        clear H
                                        go_wp2_with (first | ((with_reducible refine gate_callee (f := 8) rfl ?_); refine goesL_ (some 96) rfl rfl Try.func8 (by kernel_rfl) rfl #[.int .i64 t156] rfl (by (try simp only [List.map_toArray, List.map_cons, List.map_nil]); first | done | rfl | (simp only [List.length_drop, List.length_take]; rfl)) ?_; (with_reducible refine (gangwaylaw17_num.calls t156 t157 _ A34.out).mono ?_); rintro e w' ⟨rfl, ⟨nd, rfl⟩⟩; refine ⟨_, rfl, ?_⟩) | (go_at_call 8; (with_reducible refine (gangwaylaw17_num.calls t156 t159 _ A39.out).mono ?_); rintro e w' ⟨rfl, ⟨nd, rfl⟩⟩))
                                        go_meet
                                        case rel => exact ⟨_, (true), (by first | rfl | (simp; done) | (simp [*]; done)), H', ⟨by have := HK1.out; have := HJ1.out; have := HJ7.out; have := HJ13.out; have := HJ19.out; first | omega | exact Nat.le_refl _⟩, ⟨by (with_reducible repeat (first | refine blk_drewN ?_ _ | refine blk_drew ?_ | refine blk_alloc ?_ _)); exact BK148.out⟩, ⟨by repeat (first | (with_reducible first | exact HB.out | apply below_alloc | apply pw_below_drewN | apply below_drew1 | refine below_set ?_ GE148.out) | exact HB.out)⟩⟩
                              case rest =>
                                clear HC32
                                try clear c1
                                try clear p1
                                try clear q1
                                try clear hx1
                                try clear c2
                                try clear p2
                                try clear c3
                                try clear c3b0
                                try clear c4
                                try clear c5
                                try clear c5b0
                                try clear c6
                                try clear c6b0
                                try clear c7
                                try clear c8
                                try clear c9
                                try clear c11
                                try clear p14
                                try clear q14
                                try clear hx14
                                try clear c15
                                try clear c16
                                try clear c16b0
                                try clear c23
                                try clear c23b0
                                try clear c23b1
                                try clear c23b2
                                try clear c24
                                try clear c25
                                try clear c25b0
                                try clear c25b1
                                try clear c29
                                try clear c29b0
                                try clear c29b1
                                try clear c30
                                try clear c35
                                try clear c35b0
                                try clear c35b1
                                try clear c35b2
                                try clear c36
                                try clear c40
                                try clear c40b0
                                try clear c40b1
                                try clear hcz10_0
                                try clear hcz10_1
                                try clear hcz10_2
                                try clear hcz10_3
                                try clear hcz13_0
                                try clear hcz13_1
                                try clear hcz13_2
                                try clear hcz13_3
                                try clear hcz17_0
                                try clear hcz17_1
                                try clear hcz17_2
                                try clear hcz17_3
                                try clear hcz18_0
                                try clear hcz18_1
                                try clear hcz18_2
                                try clear hcz18_3
                                try clear hcz21_0
                                try clear hcz21_1
                                try clear hcz21_2
                                try clear hcz21_3
                                try clear hcz27_0
                                try clear hcz27_1
                                try clear hcz27_2
                                try clear hcz27_3
                                try clear hcz33_0
                                try clear hcz33_1
                                try clear hcz33_2
                                try clear hcz33_3
                                try clear hcz38_0
                                try clear hcz38_1
                                try clear hcz38_2
                                try clear hcz38_3
                                try clear hfz10_0
                                try clear hfz10_1
                                try clear hfz10_2
                                try clear hfz10_3
                                try clear hfz13_0
                                try clear hfz13_1
                                try clear hfz13_2
                                try clear hfz13_3
                                try clear hfz17_0
                                try clear hfz17_1
                                try clear hfz17_2
                                try clear hfz17_3
                                try clear hfz18_0
                                try clear hfz18_1
                                try clear hfz18_2
                                try clear hfz18_3
                                try clear hfz21_0
                                try clear hfz21_1
                                try clear hfz21_2
                                try clear hfz21_3
                                try clear hfz27_0
                                try clear hfz27_1
                                try clear hfz27_2
                                try clear hfz27_3
                                try clear hfz33_0
                                try clear hfz33_1
                                try clear hfz33_2
                                try clear hfz33_3
                                try clear hfz38_0
                                try clear hfz38_1
                                try clear hfz38_2
                                try clear hfz38_3
                                try clear hx147_0
                                try clear hx147_1
                                try clear hx147_2
                                try clear hx147_3
                                try clear p1
                                try clear p14
                                try clear p147
                                try clear p2
                                try clear q1
                                try clear q14
                                try clear q147
                                obtain ⟨kq, x119_31, rfl, HA, HJ31, BK148, HB⟩ := hcut
                                cases kq with
                                | zero => exact absurd HA.out (by simp [gangwaylaw17_RightsExact.j5])
                                | succ kj31 =>
                                  have H := HA.out
                                  clear HA
                                  simp only [gangwaylaw17_RightsExact.j5] at H
                                  by_cases c41 : x119_31 = true
                                  · as_aux_lemma =>
                                      subst c41
                                      have H1 : (some false) = some r := by rw [if_pos rfl] at H; exact H
                                      clear H
                                      have H := H1
                                      clear H1
                                      obtain rfl := Option.some.inj H
                                      go_wp2
                                      go_ret
                                      exact ⟨by first | rfl | (simp [errW_none, errW_some] <;> rfl) | (simp [*, errW_none, errW_some] <;> rfl), by repeat (first | (with_reducible first | exact HB.out | apply below_alloc | apply pw_below_drewN | apply below_drew1 | refine below_set ?_ GE148.out) | exact HB.out)⟩
                                  · replace c41 := Bool.eq_false_iff.mpr c41
                                    subst c41
                                    have H1 : ((rights_Base.f kj31 ((rd_T24 l0 x3_1).f3)).bind fun bt160 => ((rights_Inherit.f kj31 ((rd_T24 l0 x3_1).f3)).bind fun bt162 => ((gangwayref17_Kind.f ((rd_T24 l0 x3_1).f3)).bind fun t164 => (if t164 = true then ((gangwaylaw17_num.f bt160.2).bind fun t165 => (if t165 = 0 then ((gangwaylaw17_num.f bt162.2).bind fun t166 => (if t166 = 0 then ((gangwayref17_Base.f kj31 ((rd_T24 l0 x3_1).f3)).bind fun t167 => (if bt160.1 = t167 then ((gangwayref17_Inherit.f kj31 ((rd_T24 l0 x3_1).f3)).bind fun t168 => (if bt162.1 = t168 then (gangwaylaw17_RightsExact.l0 kj31 l0 (wrap64 (x3_1 + 1))) else (some false))) else (some false))) else (some false))) else (some false))) else ((gangwaylaw17_num.f bt160.2).bind fun t169 => (if t169 = 100 then ((gangwaylaw17_num.f bt162.2).bind fun t170 => (if t170 = 100 then (if bt160.1 = 0 then (if bt162.1 = 0 then (gangwaylaw17_RightsExact.l0 kj31 l0 (wrap64 (x3_1 + 1))) else (some false)) else (some false)) else (some false))) else (some false))))))) = some r := by rw [if_neg (show ¬ (false = true) by decide)] at H; exact H
                                    clear H
                                    have H := H1
                                    clear H1
                                    replace H := Option.bind_eq_some_iff.mp H
                                    obtain ⟨⟨t160, t161⟩, A420, H⟩ := H
                                    replace H : ((rights_Inherit.f kj31 ((rd_T24 l0 x3_1).f3)).bind fun bt162 => ((gangwayref17_Kind.f ((rd_T24 l0 x3_1).f3)).bind fun t164 => (if t164 = true then ((gangwaylaw17_num.f t161).bind fun t165 => (if t165 = 0 then ((gangwaylaw17_num.f bt162.2).bind fun t166 => (if t166 = 0 then ((gangwayref17_Base.f kj31 ((rd_T24 l0 x3_1).f3)).bind fun t167 => (if t160 = t167 then ((gangwayref17_Inherit.f kj31 ((rd_T24 l0 x3_1).f3)).bind fun t168 => (if bt162.1 = t168 then (gangwaylaw17_RightsExact.l0 kj31 l0 (wrap64 (x3_1 + 1))) else (some false))) else (some false))) else (some false))) else (some false))) else ((gangwaylaw17_num.f t161).bind fun t169 => (if t169 = 100 then ((gangwaylaw17_num.f bt162.2).bind fun t170 => (if t170 = 100 then (if t160 = 0 then (if bt162.1 = 0 then (gangwaylaw17_RightsExact.l0 kj31 l0 (wrap64 (x3_1 + 1))) else (some false)) else (some false)) else (some false))) else (some false)))))) = some r := H
                                    have A42 := Aside0.mk A420
                                    clear A420
                                    replace H := Option.bind_eq_some_iff.mp H
                                    obtain ⟨⟨t162, t163⟩, A430, H⟩ := H
                                    replace H : ((gangwayref17_Kind.f ((rd_T24 l0 x3_1).f3)).bind fun t164 => (if t164 = true then ((gangwaylaw17_num.f t161).bind fun t165 => (if t165 = 0 then ((gangwaylaw17_num.f t163).bind fun t166 => (if t166 = 0 then ((gangwayref17_Base.f kj31 ((rd_T24 l0 x3_1).f3)).bind fun t167 => (if t160 = t167 then ((gangwayref17_Inherit.f kj31 ((rd_T24 l0 x3_1).f3)).bind fun t168 => (if t162 = t168 then (gangwaylaw17_RightsExact.l0 kj31 l0 (wrap64 (x3_1 + 1))) else (some false))) else (some false))) else (some false))) else (some false))) else ((gangwaylaw17_num.f t161).bind fun t169 => (if t169 = 100 then ((gangwaylaw17_num.f t163).bind fun t170 => (if t170 = 100 then (if t160 = 0 then (if t162 = 0 then (gangwaylaw17_RightsExact.l0 kj31 l0 (wrap64 (x3_1 + 1))) else (some false)) else (some false)) else (some false))) else (some false))))) = some r := H
                                    have A43 := Aside0.mk A430
                                    clear A430
                                    replace H := Option.bind_eq_some_iff.mp H
                                    obtain ⟨t164, A440, H⟩ := H
                                    replace H : (if t164 = true then ((gangwaylaw17_num.f t161).bind fun t165 => (if t165 = 0 then ((gangwaylaw17_num.f t163).bind fun t166 => (if t166 = 0 then ((gangwayref17_Base.f kj31 ((rd_T24 l0 x3_1).f3)).bind fun t167 => (if t160 = t167 then ((gangwayref17_Inherit.f kj31 ((rd_T24 l0 x3_1).f3)).bind fun t168 => (if t162 = t168 then (gangwaylaw17_RightsExact.l0 kj31 l0 (wrap64 (x3_1 + 1))) else (some false))) else (some false))) else (some false))) else (some false))) else ((gangwaylaw17_num.f t161).bind fun t169 => (if t169 = 100 then ((gangwaylaw17_num.f t163).bind fun t170 => (if t170 = 100 then (if t160 = 0 then (if t162 = 0 then (gangwaylaw17_RightsExact.l0 kj31 l0 (wrap64 (x3_1 + 1))) else (some false)) else (some false)) else (some false))) else (some false)))) = some r := H
                                    have A44 := Aside0.mk A440
                                    clear A440
                                    by_cases c45 : t164 = true
                                    · subst c45
                                      have H1 : ((gangwaylaw17_num.f t161).bind fun t165 => (if t165 = 0 then ((gangwaylaw17_num.f t163).bind fun t166 => (if t166 = 0 then ((gangwayref17_Base.f kj31 ((rd_T24 l0 x3_1).f3)).bind fun t167 => (if t160 = t167 then ((gangwayref17_Inherit.f kj31 ((rd_T24 l0 x3_1).f3)).bind fun t168 => (if t162 = t168 then (gangwaylaw17_RightsExact.l0 kj31 l0 (wrap64 (x3_1 + 1))) else (some false))) else (some false))) else (some false))) else (some false))) = some r := by rw [if_pos rfl] at H; exact H
                                      clear H
                                      have H := H1
                                      clear H1
                                      replace H := Option.bind_eq_some_iff.mp H
                                      obtain ⟨t165, A460, H⟩ := H
                                      replace H : (if t165 = 0 then ((gangwaylaw17_num.f t163).bind fun t166 => (if t166 = 0 then ((gangwayref17_Base.f kj31 ((rd_T24 l0 x3_1).f3)).bind fun t167 => (if t160 = t167 then ((gangwayref17_Inherit.f kj31 ((rd_T24 l0 x3_1).f3)).bind fun t168 => (if t162 = t168 then (gangwaylaw17_RightsExact.l0 kj31 l0 (wrap64 (x3_1 + 1))) else (some false))) else (some false))) else (some false))) else (some false)) = some r := H
                                      have A46 := Aside0.mk A460
                                      clear A460
                                      by_cases c47 : t165 = 0
                                      · rw [if_pos c47] at H
                                        have c47b0 : (t165 == 0) = true := beq_iff_eq.mpr c47
                                        have c47b1 : (t165 != 0) = false := bne_eq_false_iff_eq.mpr c47
                                        clear c47
                                        replace H := Option.bind_eq_some_iff.mp H
                                        obtain ⟨t166, A480, H⟩ := H
                                        replace H : (if t166 = 0 then ((gangwayref17_Base.f kj31 ((rd_T24 l0 x3_1).f3)).bind fun t167 => (if t160 = t167 then ((gangwayref17_Inherit.f kj31 ((rd_T24 l0 x3_1).f3)).bind fun t168 => (if t162 = t168 then (gangwaylaw17_RightsExact.l0 kj31 l0 (wrap64 (x3_1 + 1))) else (some false))) else (some false))) else (some false)) = some r := H
                                        have A48 := Aside0.mk A480
                                        clear A480
                                        by_cases c49 : t166 = 0
                                        · rw [if_pos c49] at H
                                          have c49b0 : (t166 == 0) = true := beq_iff_eq.mpr c49
                                          have c49b1 : (t166 != 0) = false := bne_eq_false_iff_eq.mpr c49
                                          clear c49
                                          replace H := Option.bind_eq_some_iff.mp H
                                          obtain ⟨t167, A500, H⟩ := H
                                          replace H : (if t160 = t167 then ((gangwayref17_Inherit.f kj31 ((rd_T24 l0 x3_1).f3)).bind fun t168 => (if t162 = t168 then (gangwaylaw17_RightsExact.l0 kj31 l0 (wrap64 (x3_1 + 1))) else (some false))) else (some false)) = some r := H
                                          have A50 := Aside0.mk A500
                                          clear A500
                                          by_cases c51 : t160 = t167
                                          · rw [if_pos c51] at H
                                            have c51b0 : (t160 == t167) = true := beq_iff_eq.mpr c51
                                            have c51b1 : (t160 != t167) = false := bne_eq_false_iff_eq.mpr c51
                                            clear c51
                                            replace H := Option.bind_eq_some_iff.mp H
                                            obtain ⟨t168, A520, H⟩ := H
                                            replace H : (if t162 = t168 then (gangwaylaw17_RightsExact.l0 kj31 l0 (wrap64 (x3_1 + 1))) else (some false)) = some r := H
                                            have A52 := Aside0.mk A520
                                            clear A520
                                            by_cases c53 : t162 = t168
                                            · as_aux_lemma =>
                                                rw [if_pos c53] at H
                                                have c53b0 : (t162 == t168) = true := beq_iff_eq.mpr c53
                                                have c53b1 : (t162 != t168) = false := bne_eq_false_iff_eq.mpr c53
                                                clear c53
                                                have H' := Aside0.mk H
                                                clear H
                                                have hcz54_0 : wc.cell? ⟨gb148, 0, none⟩ = some (.int .i64 ((rd_T24 l0 x3_1).f0)) := (blk_cell BK148.out 0).trans rfl
                                                have hcz54_1 : wc.cell? ⟨gb148, 1, none⟩ = some (.int .i64 ((rd_T24 l0 x3_1).f1)) := (blk_cell BK148.out 1).trans rfl
                                                have hcz54_2 : wc.cell? ⟨gb148, 2, none⟩ = some (.int .i64 ((rd_T24 l0 x3_1).f2)) := (blk_cell BK148.out 2).trans rfl
                                                have hcz54_3 : wc.cell? ⟨gb148, 3, none⟩ = some (.int .i64 ((rd_T24 l0 x3_1).f3)) := (blk_cell BK148.out 3).trans rfl
                                                have hfz54_0 := blk_frozen BK148.out 0
                                                have hfz54_1 := blk_frozen BK148.out 1
                                                have hfz54_2 := blk_frozen BK148.out 2
                                                have hfz54_3 := blk_frozen BK148.out 3
                                                go_wp2_with (first | ((with_reducible refine gate_callee (f := 11) rfl ?_); refine goesL_ (some 123) rfl rfl Try.func11 (by kernel_rfl) rfl #[.int .i64 ((rd_T24 l0 x3_1).f3)] rfl (by (try simp only [List.map_toArray, List.map_cons, List.map_nil]); first | done | rfl | (simp only [List.length_drop, List.length_take]; rfl)) ?_; (with_reducible refine (rights_Base.calls kj31 ((rd_T24 l0 x3_1).f3) t160 t161 _ A42.out).mono ?_); rintro e w55 ⟨rfl, hb⟩; refine ⟨_, rfl, ?_⟩; have n0_ := Aside0.mk (blk_below (g := gb148) (o := .cells #[.int .i64 ((rd_T24 l0 x3_1).f0), .int .i64 ((rd_T24 l0 x3_1).f1), .int .i64 ((rd_T24 l0 x3_1).f2), .int .i64 ((rd_T24 l0 x3_1).f3)] 24 (0, 0)) (by (with_reducible repeat (first | refine blk_drewN ?_ _ | refine blk_drew ?_ | refine blk_alloc ?_ _)); exact BK148.out) hb); have n1_ := Aside0.mk (below_step (by repeat (first | (with_reducible first | exact HB.out | apply below_alloc | apply pw_below_drewN | apply below_drew1 | refine below_set ?_ GE148.out) | exact HB.out)) hb); clear BK148; clear HB; have BK148 := n0_; have HB := n1_; clear n0_ n1_; (try clear hb); (try clear hb2); (try clear hk); (try clear hi); have hcz56_0 : w55.cell? ⟨gb148, 0, none⟩ = some (.int .i64 ((rd_T24 l0 x3_1).f0)) := (blk_cell BK148.out 0).trans rfl; have hcz56_1 : w55.cell? ⟨gb148, 1, none⟩ = some (.int .i64 ((rd_T24 l0 x3_1).f1)) := (blk_cell BK148.out 1).trans rfl; have hcz56_2 : w55.cell? ⟨gb148, 2, none⟩ = some (.int .i64 ((rd_T24 l0 x3_1).f2)) := (blk_cell BK148.out 2).trans rfl; have hcz56_3 : w55.cell? ⟨gb148, 3, none⟩ = some (.int .i64 ((rd_T24 l0 x3_1).f3)) := (blk_cell BK148.out 3).trans rfl; have hfz56_0 := blk_frozen BK148.out 0; have hfz56_1 := blk_frozen BK148.out 1; have hfz56_2 := blk_frozen BK148.out 2; have hfz56_3 := blk_frozen BK148.out 3) | ((with_reducible refine gate_callee (f := 12) rfl ?_); refine goesL_ (some 129) rfl rfl Try.func12 (by kernel_rfl) rfl #[.int .i64 ((rd_T24 l0 x3_1).f3)] rfl (by (try simp only [List.map_toArray, List.map_cons, List.map_nil]); first | done | rfl | (simp only [List.length_drop, List.length_take]; rfl)) ?_; (with_reducible refine (rights_Inherit.calls kj31 ((rd_T24 l0 x3_1).f3) t162 t163 _ A43.out).mono ?_); rintro e w57 ⟨rfl, hb⟩; refine ⟨_, rfl, ?_⟩; have n0_ := Aside0.mk (blk_below (g := gb148) (o := .cells #[.int .i64 ((rd_T24 l0 x3_1).f0), .int .i64 ((rd_T24 l0 x3_1).f1), .int .i64 ((rd_T24 l0 x3_1).f2), .int .i64 ((rd_T24 l0 x3_1).f3)] 24 (0, 0)) (by (with_reducible repeat (first | refine blk_drewN ?_ _ | refine blk_drew ?_ | refine blk_alloc ?_ _)); exact BK148.out) hb); have n1_ := Aside0.mk (below_step (by repeat (first | (with_reducible first | exact HB.out | apply below_alloc | apply pw_below_drewN | apply below_drew1 | refine below_set ?_ GE148.out) | exact HB.out)) hb); clear BK148; clear HB; have BK148 := n0_; have HB := n1_; clear n0_ n1_; (try clear hb); (try clear hb2); (try clear hk); (try clear hi); have hcz58_0 : w57.cell? ⟨gb148, 0, none⟩ = some (.int .i64 ((rd_T24 l0 x3_1).f0)) := (blk_cell BK148.out 0).trans rfl; have hcz58_1 : w57.cell? ⟨gb148, 1, none⟩ = some (.int .i64 ((rd_T24 l0 x3_1).f1)) := (blk_cell BK148.out 1).trans rfl; have hcz58_2 : w57.cell? ⟨gb148, 2, none⟩ = some (.int .i64 ((rd_T24 l0 x3_1).f2)) := (blk_cell BK148.out 2).trans rfl; have hcz58_3 : w57.cell? ⟨gb148, 3, none⟩ = some (.int .i64 ((rd_T24 l0 x3_1).f3)) := (blk_cell BK148.out 3).trans rfl; have hfz58_0 := blk_frozen BK148.out 0; have hfz58_1 := blk_frozen BK148.out 1; have hfz58_2 := blk_frozen BK148.out 2; have hfz58_3 := blk_frozen BK148.out 3) | ((with_reducible refine gate_callee (f := 13) rfl ?_); refine goesL_ (some 134) rfl rfl Try.func13 (by kernel_rfl) rfl #[.int .i64 ((rd_T24 l0 x3_1).f3)] rfl (by (try simp only [List.map_toArray, List.map_cons, List.map_nil]); first | done | rfl | (simp only [List.length_drop, List.length_take]; rfl)) ?_; (with_reducible refine (gangwayref17_Kind.calls ((rd_T24 l0 x3_1).f3) true _ A44.out).mono ?_); rintro e w' ⟨rfl, ⟨nd, rfl⟩⟩; refine ⟨_, rfl, ?_⟩) | ((with_reducible refine gate_callee (f := 8) rfl ?_); refine goesL_ (some 153) rfl rfl Try.func8 (by kernel_rfl) rfl #[.int .i64 t161] rfl (by (try simp only [List.map_toArray, List.map_cons, List.map_nil]); first | done | rfl | (simp only [List.length_drop, List.length_take]; rfl)) ?_; (with_reducible refine (gangwaylaw17_num.calls t161 t165 _ A46.out).mono ?_); rintro e w' ⟨rfl, ⟨nd, rfl⟩⟩; refine ⟨_, rfl, ?_⟩) | (go_at_call 8; (with_reducible refine (gangwaylaw17_num.calls t163 t166 _ A48.out).mono ?_); rintro e w' ⟨rfl, ⟨nd, rfl⟩⟩) | (go_at_call 14; (with_reducible refine (gangwayref17_Base.calls kj31 ((rd_T24 l0 x3_1).f3) t167 _ A50.out).mono ?_); rintro e w' ⟨rfl, ⟨nd, rfl⟩⟩) | (go_at_call 15; (with_reducible refine (gangwayref17_Inherit.calls kj31 ((rd_T24 l0 x3_1).f3) t168 _ A52.out).mono ?_); rintro e w' ⟨rfl, ⟨nd, rfl⟩⟩))
                                                go_roundg kj31
                                                case measure => have := HK1.out; have := HJ1.out; have := HJ7.out; have := HJ13.out; have := HJ19.out; have := HJ31.out; omega
                                                case rel => exact ⟨(wrap64 (x3_1 + 1)), (by first | rfl | (simp; done) | (simp [*]; done)), H', ⟨by have := HK1.out; have := HJ1.out; have := HJ7.out; have := HJ13.out; have := HJ19.out; have := HJ31.out; omega⟩, ⟨by repeat (first | (with_reducible first | exact HB.out | apply below_alloc | apply pw_below_drewN | apply below_drew1 | refine below_set ?_ GE148.out) | exact HB.out)⟩⟩
                                            · as_aux_lemma =>
                                                rw [if_neg c53] at H
                                                have c53b0 : (t162 == t168) = false := beq_eq_false_iff_ne.mpr c53
                                                have c53b1 : (t162 != t168) = true := bne_iff_ne.mpr c53
                                                obtain rfl := Option.some.inj H
                                                have hcz59_0 : wc.cell? ⟨gb148, 0, none⟩ = some (.int .i64 ((rd_T24 l0 x3_1).f0)) := (blk_cell BK148.out 0).trans rfl
                                                have hcz59_1 : wc.cell? ⟨gb148, 1, none⟩ = some (.int .i64 ((rd_T24 l0 x3_1).f1)) := (blk_cell BK148.out 1).trans rfl
                                                have hcz59_2 : wc.cell? ⟨gb148, 2, none⟩ = some (.int .i64 ((rd_T24 l0 x3_1).f2)) := (blk_cell BK148.out 2).trans rfl
                                                have hcz59_3 : wc.cell? ⟨gb148, 3, none⟩ = some (.int .i64 ((rd_T24 l0 x3_1).f3)) := (blk_cell BK148.out 3).trans rfl
                                                have hfz59_0 := blk_frozen BK148.out 0
                                                have hfz59_1 := blk_frozen BK148.out 1
                                                have hfz59_2 := blk_frozen BK148.out 2
                                                have hfz59_3 := blk_frozen BK148.out 3
                                                go_wp2_with (first | ((with_reducible refine gate_callee (f := 11) rfl ?_); refine goesL_ (some 123) rfl rfl Try.func11 (by kernel_rfl) rfl #[.int .i64 ((rd_T24 l0 x3_1).f3)] rfl (by (try simp only [List.map_toArray, List.map_cons, List.map_nil]); first | done | rfl | (simp only [List.length_drop, List.length_take]; rfl)) ?_; (with_reducible refine (rights_Base.calls kj31 ((rd_T24 l0 x3_1).f3) t160 t161 _ A42.out).mono ?_); rintro e w60 ⟨rfl, hb⟩; refine ⟨_, rfl, ?_⟩; have n0_ := Aside0.mk (blk_below (g := gb148) (o := .cells #[.int .i64 ((rd_T24 l0 x3_1).f0), .int .i64 ((rd_T24 l0 x3_1).f1), .int .i64 ((rd_T24 l0 x3_1).f2), .int .i64 ((rd_T24 l0 x3_1).f3)] 24 (0, 0)) (by (with_reducible repeat (first | refine blk_drewN ?_ _ | refine blk_drew ?_ | refine blk_alloc ?_ _)); exact BK148.out) hb); have n1_ := Aside0.mk (below_step (by repeat (first | (with_reducible first | exact HB.out | apply below_alloc | apply pw_below_drewN | apply below_drew1 | refine below_set ?_ GE148.out) | exact HB.out)) hb); clear BK148; clear HB; have BK148 := n0_; have HB := n1_; clear n0_ n1_; (try clear hb); (try clear hb2); (try clear hk); (try clear hi); have hcz61_0 : w60.cell? ⟨gb148, 0, none⟩ = some (.int .i64 ((rd_T24 l0 x3_1).f0)) := (blk_cell BK148.out 0).trans rfl; have hcz61_1 : w60.cell? ⟨gb148, 1, none⟩ = some (.int .i64 ((rd_T24 l0 x3_1).f1)) := (blk_cell BK148.out 1).trans rfl; have hcz61_2 : w60.cell? ⟨gb148, 2, none⟩ = some (.int .i64 ((rd_T24 l0 x3_1).f2)) := (blk_cell BK148.out 2).trans rfl; have hcz61_3 : w60.cell? ⟨gb148, 3, none⟩ = some (.int .i64 ((rd_T24 l0 x3_1).f3)) := (blk_cell BK148.out 3).trans rfl; have hfz61_0 := blk_frozen BK148.out 0; have hfz61_1 := blk_frozen BK148.out 1; have hfz61_2 := blk_frozen BK148.out 2; have hfz61_3 := blk_frozen BK148.out 3) | ((with_reducible refine gate_callee (f := 12) rfl ?_); refine goesL_ (some 129) rfl rfl Try.func12 (by kernel_rfl) rfl #[.int .i64 ((rd_T24 l0 x3_1).f3)] rfl (by (try simp only [List.map_toArray, List.map_cons, List.map_nil]); first | done | rfl | (simp only [List.length_drop, List.length_take]; rfl)) ?_; (with_reducible refine (rights_Inherit.calls kj31 ((rd_T24 l0 x3_1).f3) t162 t163 _ A43.out).mono ?_); rintro e w62 ⟨rfl, hb⟩; refine ⟨_, rfl, ?_⟩; have n0_ := Aside0.mk (blk_below (g := gb148) (o := .cells #[.int .i64 ((rd_T24 l0 x3_1).f0), .int .i64 ((rd_T24 l0 x3_1).f1), .int .i64 ((rd_T24 l0 x3_1).f2), .int .i64 ((rd_T24 l0 x3_1).f3)] 24 (0, 0)) (by (with_reducible repeat (first | refine blk_drewN ?_ _ | refine blk_drew ?_ | refine blk_alloc ?_ _)); exact BK148.out) hb); have n1_ := Aside0.mk (below_step (by repeat (first | (with_reducible first | exact HB.out | apply below_alloc | apply pw_below_drewN | apply below_drew1 | refine below_set ?_ GE148.out) | exact HB.out)) hb); clear BK148; clear HB; have BK148 := n0_; have HB := n1_; clear n0_ n1_; (try clear hb); (try clear hb2); (try clear hk); (try clear hi); have hcz63_0 : w62.cell? ⟨gb148, 0, none⟩ = some (.int .i64 ((rd_T24 l0 x3_1).f0)) := (blk_cell BK148.out 0).trans rfl; have hcz63_1 : w62.cell? ⟨gb148, 1, none⟩ = some (.int .i64 ((rd_T24 l0 x3_1).f1)) := (blk_cell BK148.out 1).trans rfl; have hcz63_2 : w62.cell? ⟨gb148, 2, none⟩ = some (.int .i64 ((rd_T24 l0 x3_1).f2)) := (blk_cell BK148.out 2).trans rfl; have hcz63_3 : w62.cell? ⟨gb148, 3, none⟩ = some (.int .i64 ((rd_T24 l0 x3_1).f3)) := (blk_cell BK148.out 3).trans rfl; have hfz63_0 := blk_frozen BK148.out 0; have hfz63_1 := blk_frozen BK148.out 1; have hfz63_2 := blk_frozen BK148.out 2; have hfz63_3 := blk_frozen BK148.out 3) | ((with_reducible refine gate_callee (f := 13) rfl ?_); refine goesL_ (some 134) rfl rfl Try.func13 (by kernel_rfl) rfl #[.int .i64 ((rd_T24 l0 x3_1).f3)] rfl (by (try simp only [List.map_toArray, List.map_cons, List.map_nil]); first | done | rfl | (simp only [List.length_drop, List.length_take]; rfl)) ?_; (with_reducible refine (gangwayref17_Kind.calls ((rd_T24 l0 x3_1).f3) true _ A44.out).mono ?_); rintro e w' ⟨rfl, ⟨nd, rfl⟩⟩; refine ⟨_, rfl, ?_⟩) | ((with_reducible refine gate_callee (f := 8) rfl ?_); refine goesL_ (some 153) rfl rfl Try.func8 (by kernel_rfl) rfl #[.int .i64 t161] rfl (by (try simp only [List.map_toArray, List.map_cons, List.map_nil]); first | done | rfl | (simp only [List.length_drop, List.length_take]; rfl)) ?_; (with_reducible refine (gangwaylaw17_num.calls t161 t165 _ A46.out).mono ?_); rintro e w' ⟨rfl, ⟨nd, rfl⟩⟩; refine ⟨_, rfl, ?_⟩) | (go_at_call 8; (with_reducible refine (gangwaylaw17_num.calls t163 t166 _ A48.out).mono ?_); rintro e w' ⟨rfl, ⟨nd, rfl⟩⟩) | (go_at_call 14; (with_reducible refine (gangwayref17_Base.calls kj31 ((rd_T24 l0 x3_1).f3) t167 _ A50.out).mono ?_); rintro e w' ⟨rfl, ⟨nd, rfl⟩⟩) | (go_at_call 15; (with_reducible refine (gangwayref17_Inherit.calls kj31 ((rd_T24 l0 x3_1).f3) t168 _ A52.out).mono ?_); rintro e w' ⟨rfl, ⟨nd, rfl⟩⟩))
                                                go_ret
                                                exact ⟨by first | rfl | (simp [errW_none, errW_some] <;> rfl) | (simp [*, errW_none, errW_some] <;> rfl), by repeat (first | (with_reducible first | exact HB.out | apply below_alloc | apply pw_below_drewN | apply below_drew1 | refine below_set ?_ GE148.out) | exact HB.out)⟩
                                          · as_aux_lemma =>
                                              rw [if_neg c51] at H
                                              have c51b0 : (t160 == t167) = false := beq_eq_false_iff_ne.mpr c51
                                              have c51b1 : (t160 != t167) = true := bne_iff_ne.mpr c51
                                              obtain rfl := Option.some.inj H
                                              have hcz64_0 : wc.cell? ⟨gb148, 0, none⟩ = some (.int .i64 ((rd_T24 l0 x3_1).f0)) := (blk_cell BK148.out 0).trans rfl
                                              have hcz64_1 : wc.cell? ⟨gb148, 1, none⟩ = some (.int .i64 ((rd_T24 l0 x3_1).f1)) := (blk_cell BK148.out 1).trans rfl
                                              have hcz64_2 : wc.cell? ⟨gb148, 2, none⟩ = some (.int .i64 ((rd_T24 l0 x3_1).f2)) := (blk_cell BK148.out 2).trans rfl
                                              have hcz64_3 : wc.cell? ⟨gb148, 3, none⟩ = some (.int .i64 ((rd_T24 l0 x3_1).f3)) := (blk_cell BK148.out 3).trans rfl
                                              have hfz64_0 := blk_frozen BK148.out 0
                                              have hfz64_1 := blk_frozen BK148.out 1
                                              have hfz64_2 := blk_frozen BK148.out 2
                                              have hfz64_3 := blk_frozen BK148.out 3
                                              go_wp2_with (first | ((with_reducible refine gate_callee (f := 11) rfl ?_); refine goesL_ (some 123) rfl rfl Try.func11 (by kernel_rfl) rfl #[.int .i64 ((rd_T24 l0 x3_1).f3)] rfl (by (try simp only [List.map_toArray, List.map_cons, List.map_nil]); first | done | rfl | (simp only [List.length_drop, List.length_take]; rfl)) ?_; (with_reducible refine (rights_Base.calls kj31 ((rd_T24 l0 x3_1).f3) t160 t161 _ A42.out).mono ?_); rintro e w65 ⟨rfl, hb⟩; refine ⟨_, rfl, ?_⟩; have n0_ := Aside0.mk (blk_below (g := gb148) (o := .cells #[.int .i64 ((rd_T24 l0 x3_1).f0), .int .i64 ((rd_T24 l0 x3_1).f1), .int .i64 ((rd_T24 l0 x3_1).f2), .int .i64 ((rd_T24 l0 x3_1).f3)] 24 (0, 0)) (by (with_reducible repeat (first | refine blk_drewN ?_ _ | refine blk_drew ?_ | refine blk_alloc ?_ _)); exact BK148.out) hb); have n1_ := Aside0.mk (below_step (by repeat (first | (with_reducible first | exact HB.out | apply below_alloc | apply pw_below_drewN | apply below_drew1 | refine below_set ?_ GE148.out) | exact HB.out)) hb); clear BK148; clear HB; have BK148 := n0_; have HB := n1_; clear n0_ n1_; (try clear hb); (try clear hb2); (try clear hk); (try clear hi); have hcz66_0 : w65.cell? ⟨gb148, 0, none⟩ = some (.int .i64 ((rd_T24 l0 x3_1).f0)) := (blk_cell BK148.out 0).trans rfl; have hcz66_1 : w65.cell? ⟨gb148, 1, none⟩ = some (.int .i64 ((rd_T24 l0 x3_1).f1)) := (blk_cell BK148.out 1).trans rfl; have hcz66_2 : w65.cell? ⟨gb148, 2, none⟩ = some (.int .i64 ((rd_T24 l0 x3_1).f2)) := (blk_cell BK148.out 2).trans rfl; have hcz66_3 : w65.cell? ⟨gb148, 3, none⟩ = some (.int .i64 ((rd_T24 l0 x3_1).f3)) := (blk_cell BK148.out 3).trans rfl; have hfz66_0 := blk_frozen BK148.out 0; have hfz66_1 := blk_frozen BK148.out 1; have hfz66_2 := blk_frozen BK148.out 2; have hfz66_3 := blk_frozen BK148.out 3) | ((with_reducible refine gate_callee (f := 12) rfl ?_); refine goesL_ (some 129) rfl rfl Try.func12 (by kernel_rfl) rfl #[.int .i64 ((rd_T24 l0 x3_1).f3)] rfl (by (try simp only [List.map_toArray, List.map_cons, List.map_nil]); first | done | rfl | (simp only [List.length_drop, List.length_take]; rfl)) ?_; (with_reducible refine (rights_Inherit.calls kj31 ((rd_T24 l0 x3_1).f3) t162 t163 _ A43.out).mono ?_); rintro e w67 ⟨rfl, hb⟩; refine ⟨_, rfl, ?_⟩; have n0_ := Aside0.mk (blk_below (g := gb148) (o := .cells #[.int .i64 ((rd_T24 l0 x3_1).f0), .int .i64 ((rd_T24 l0 x3_1).f1), .int .i64 ((rd_T24 l0 x3_1).f2), .int .i64 ((rd_T24 l0 x3_1).f3)] 24 (0, 0)) (by (with_reducible repeat (first | refine blk_drewN ?_ _ | refine blk_drew ?_ | refine blk_alloc ?_ _)); exact BK148.out) hb); have n1_ := Aside0.mk (below_step (by repeat (first | (with_reducible first | exact HB.out | apply below_alloc | apply pw_below_drewN | apply below_drew1 | refine below_set ?_ GE148.out) | exact HB.out)) hb); clear BK148; clear HB; have BK148 := n0_; have HB := n1_; clear n0_ n1_; (try clear hb); (try clear hb2); (try clear hk); (try clear hi); have hcz68_0 : w67.cell? ⟨gb148, 0, none⟩ = some (.int .i64 ((rd_T24 l0 x3_1).f0)) := (blk_cell BK148.out 0).trans rfl; have hcz68_1 : w67.cell? ⟨gb148, 1, none⟩ = some (.int .i64 ((rd_T24 l0 x3_1).f1)) := (blk_cell BK148.out 1).trans rfl; have hcz68_2 : w67.cell? ⟨gb148, 2, none⟩ = some (.int .i64 ((rd_T24 l0 x3_1).f2)) := (blk_cell BK148.out 2).trans rfl; have hcz68_3 : w67.cell? ⟨gb148, 3, none⟩ = some (.int .i64 ((rd_T24 l0 x3_1).f3)) := (blk_cell BK148.out 3).trans rfl; have hfz68_0 := blk_frozen BK148.out 0; have hfz68_1 := blk_frozen BK148.out 1; have hfz68_2 := blk_frozen BK148.out 2; have hfz68_3 := blk_frozen BK148.out 3) | ((with_reducible refine gate_callee (f := 13) rfl ?_); refine goesL_ (some 134) rfl rfl Try.func13 (by kernel_rfl) rfl #[.int .i64 ((rd_T24 l0 x3_1).f3)] rfl (by (try simp only [List.map_toArray, List.map_cons, List.map_nil]); first | done | rfl | (simp only [List.length_drop, List.length_take]; rfl)) ?_; (with_reducible refine (gangwayref17_Kind.calls ((rd_T24 l0 x3_1).f3) true _ A44.out).mono ?_); rintro e w' ⟨rfl, ⟨nd, rfl⟩⟩; refine ⟨_, rfl, ?_⟩) | ((with_reducible refine gate_callee (f := 8) rfl ?_); refine goesL_ (some 153) rfl rfl Try.func8 (by kernel_rfl) rfl #[.int .i64 t161] rfl (by (try simp only [List.map_toArray, List.map_cons, List.map_nil]); first | done | rfl | (simp only [List.length_drop, List.length_take]; rfl)) ?_; (with_reducible refine (gangwaylaw17_num.calls t161 t165 _ A46.out).mono ?_); rintro e w' ⟨rfl, ⟨nd, rfl⟩⟩; refine ⟨_, rfl, ?_⟩) | (go_at_call 8; (with_reducible refine (gangwaylaw17_num.calls t163 t166 _ A48.out).mono ?_); rintro e w' ⟨rfl, ⟨nd, rfl⟩⟩) | (go_at_call 14; (with_reducible refine (gangwayref17_Base.calls kj31 ((rd_T24 l0 x3_1).f3) t167 _ A50.out).mono ?_); rintro e w' ⟨rfl, ⟨nd, rfl⟩⟩))
                                              go_ret
                                              exact ⟨by first | rfl | (simp [errW_none, errW_some] <;> rfl) | (simp [*, errW_none, errW_some] <;> rfl), by repeat (first | (with_reducible first | exact HB.out | apply below_alloc | apply pw_below_drewN | apply below_drew1 | refine below_set ?_ GE148.out) | exact HB.out)⟩
                                        · as_aux_lemma =>
                                            rw [if_neg c49] at H
                                            have c49b0 : (t166 == 0) = false := beq_eq_false_iff_ne.mpr c49
                                            have c49b1 : (t166 != 0) = true := bne_iff_ne.mpr c49
                                            obtain rfl := Option.some.inj H
                                            have hcz69_0 : wc.cell? ⟨gb148, 0, none⟩ = some (.int .i64 ((rd_T24 l0 x3_1).f0)) := (blk_cell BK148.out 0).trans rfl
                                            have hcz69_1 : wc.cell? ⟨gb148, 1, none⟩ = some (.int .i64 ((rd_T24 l0 x3_1).f1)) := (blk_cell BK148.out 1).trans rfl
                                            have hcz69_2 : wc.cell? ⟨gb148, 2, none⟩ = some (.int .i64 ((rd_T24 l0 x3_1).f2)) := (blk_cell BK148.out 2).trans rfl
                                            have hcz69_3 : wc.cell? ⟨gb148, 3, none⟩ = some (.int .i64 ((rd_T24 l0 x3_1).f3)) := (blk_cell BK148.out 3).trans rfl
                                            have hfz69_0 := blk_frozen BK148.out 0
                                            have hfz69_1 := blk_frozen BK148.out 1
                                            have hfz69_2 := blk_frozen BK148.out 2
                                            have hfz69_3 := blk_frozen BK148.out 3
                                            go_wp2_with (first | ((with_reducible refine gate_callee (f := 11) rfl ?_); refine goesL_ (some 123) rfl rfl Try.func11 (by kernel_rfl) rfl #[.int .i64 ((rd_T24 l0 x3_1).f3)] rfl (by (try simp only [List.map_toArray, List.map_cons, List.map_nil]); first | done | rfl | (simp only [List.length_drop, List.length_take]; rfl)) ?_; (with_reducible refine (rights_Base.calls kj31 ((rd_T24 l0 x3_1).f3) t160 t161 _ A42.out).mono ?_); rintro e w70 ⟨rfl, hb⟩; refine ⟨_, rfl, ?_⟩; have n0_ := Aside0.mk (blk_below (g := gb148) (o := .cells #[.int .i64 ((rd_T24 l0 x3_1).f0), .int .i64 ((rd_T24 l0 x3_1).f1), .int .i64 ((rd_T24 l0 x3_1).f2), .int .i64 ((rd_T24 l0 x3_1).f3)] 24 (0, 0)) (by (with_reducible repeat (first | refine blk_drewN ?_ _ | refine blk_drew ?_ | refine blk_alloc ?_ _)); exact BK148.out) hb); have n1_ := Aside0.mk (below_step (by repeat (first | (with_reducible first | exact HB.out | apply below_alloc | apply pw_below_drewN | apply below_drew1 | refine below_set ?_ GE148.out) | exact HB.out)) hb); clear BK148; clear HB; have BK148 := n0_; have HB := n1_; clear n0_ n1_; (try clear hb); (try clear hb2); (try clear hk); (try clear hi); have hcz71_0 : w70.cell? ⟨gb148, 0, none⟩ = some (.int .i64 ((rd_T24 l0 x3_1).f0)) := (blk_cell BK148.out 0).trans rfl; have hcz71_1 : w70.cell? ⟨gb148, 1, none⟩ = some (.int .i64 ((rd_T24 l0 x3_1).f1)) := (blk_cell BK148.out 1).trans rfl; have hcz71_2 : w70.cell? ⟨gb148, 2, none⟩ = some (.int .i64 ((rd_T24 l0 x3_1).f2)) := (blk_cell BK148.out 2).trans rfl; have hcz71_3 : w70.cell? ⟨gb148, 3, none⟩ = some (.int .i64 ((rd_T24 l0 x3_1).f3)) := (blk_cell BK148.out 3).trans rfl; have hfz71_0 := blk_frozen BK148.out 0; have hfz71_1 := blk_frozen BK148.out 1; have hfz71_2 := blk_frozen BK148.out 2; have hfz71_3 := blk_frozen BK148.out 3) | ((with_reducible refine gate_callee (f := 12) rfl ?_); refine goesL_ (some 129) rfl rfl Try.func12 (by kernel_rfl) rfl #[.int .i64 ((rd_T24 l0 x3_1).f3)] rfl (by (try simp only [List.map_toArray, List.map_cons, List.map_nil]); first | done | rfl | (simp only [List.length_drop, List.length_take]; rfl)) ?_; (with_reducible refine (rights_Inherit.calls kj31 ((rd_T24 l0 x3_1).f3) t162 t163 _ A43.out).mono ?_); rintro e w72 ⟨rfl, hb⟩; refine ⟨_, rfl, ?_⟩; have n0_ := Aside0.mk (blk_below (g := gb148) (o := .cells #[.int .i64 ((rd_T24 l0 x3_1).f0), .int .i64 ((rd_T24 l0 x3_1).f1), .int .i64 ((rd_T24 l0 x3_1).f2), .int .i64 ((rd_T24 l0 x3_1).f3)] 24 (0, 0)) (by (with_reducible repeat (first | refine blk_drewN ?_ _ | refine blk_drew ?_ | refine blk_alloc ?_ _)); exact BK148.out) hb); have n1_ := Aside0.mk (below_step (by repeat (first | (with_reducible first | exact HB.out | apply below_alloc | apply pw_below_drewN | apply below_drew1 | refine below_set ?_ GE148.out) | exact HB.out)) hb); clear BK148; clear HB; have BK148 := n0_; have HB := n1_; clear n0_ n1_; (try clear hb); (try clear hb2); (try clear hk); (try clear hi); have hcz73_0 : w72.cell? ⟨gb148, 0, none⟩ = some (.int .i64 ((rd_T24 l0 x3_1).f0)) := (blk_cell BK148.out 0).trans rfl; have hcz73_1 : w72.cell? ⟨gb148, 1, none⟩ = some (.int .i64 ((rd_T24 l0 x3_1).f1)) := (blk_cell BK148.out 1).trans rfl; have hcz73_2 : w72.cell? ⟨gb148, 2, none⟩ = some (.int .i64 ((rd_T24 l0 x3_1).f2)) := (blk_cell BK148.out 2).trans rfl; have hcz73_3 : w72.cell? ⟨gb148, 3, none⟩ = some (.int .i64 ((rd_T24 l0 x3_1).f3)) := (blk_cell BK148.out 3).trans rfl; have hfz73_0 := blk_frozen BK148.out 0; have hfz73_1 := blk_frozen BK148.out 1; have hfz73_2 := blk_frozen BK148.out 2; have hfz73_3 := blk_frozen BK148.out 3) | ((with_reducible refine gate_callee (f := 13) rfl ?_); refine goesL_ (some 134) rfl rfl Try.func13 (by kernel_rfl) rfl #[.int .i64 ((rd_T24 l0 x3_1).f3)] rfl (by (try simp only [List.map_toArray, List.map_cons, List.map_nil]); first | done | rfl | (simp only [List.length_drop, List.length_take]; rfl)) ?_; (with_reducible refine (gangwayref17_Kind.calls ((rd_T24 l0 x3_1).f3) true _ A44.out).mono ?_); rintro e w' ⟨rfl, ⟨nd, rfl⟩⟩; refine ⟨_, rfl, ?_⟩) | ((with_reducible refine gate_callee (f := 8) rfl ?_); refine goesL_ (some 153) rfl rfl Try.func8 (by kernel_rfl) rfl #[.int .i64 t161] rfl (by (try simp only [List.map_toArray, List.map_cons, List.map_nil]); first | done | rfl | (simp only [List.length_drop, List.length_take]; rfl)) ?_; (with_reducible refine (gangwaylaw17_num.calls t161 t165 _ A46.out).mono ?_); rintro e w' ⟨rfl, ⟨nd, rfl⟩⟩; refine ⟨_, rfl, ?_⟩) | (go_at_call 8; (with_reducible refine (gangwaylaw17_num.calls t163 t166 _ A48.out).mono ?_); rintro e w' ⟨rfl, ⟨nd, rfl⟩⟩))
                                            go_ret
                                            exact ⟨by first | rfl | (simp [errW_none, errW_some] <;> rfl) | (simp [*, errW_none, errW_some] <;> rfl), by repeat (first | (with_reducible first | exact HB.out | apply below_alloc | apply pw_below_drewN | apply below_drew1 | refine below_set ?_ GE148.out) | exact HB.out)⟩
                                      · as_aux_lemma =>
                                          rw [if_neg c47] at H
                                          have c47b0 : (t165 == 0) = false := beq_eq_false_iff_ne.mpr c47
                                          have c47b1 : (t165 != 0) = true := bne_iff_ne.mpr c47
                                          obtain rfl := Option.some.inj H
                                          have hcz74_0 : wc.cell? ⟨gb148, 0, none⟩ = some (.int .i64 ((rd_T24 l0 x3_1).f0)) := (blk_cell BK148.out 0).trans rfl
                                          have hcz74_1 : wc.cell? ⟨gb148, 1, none⟩ = some (.int .i64 ((rd_T24 l0 x3_1).f1)) := (blk_cell BK148.out 1).trans rfl
                                          have hcz74_2 : wc.cell? ⟨gb148, 2, none⟩ = some (.int .i64 ((rd_T24 l0 x3_1).f2)) := (blk_cell BK148.out 2).trans rfl
                                          have hcz74_3 : wc.cell? ⟨gb148, 3, none⟩ = some (.int .i64 ((rd_T24 l0 x3_1).f3)) := (blk_cell BK148.out 3).trans rfl
                                          have hfz74_0 := blk_frozen BK148.out 0
                                          have hfz74_1 := blk_frozen BK148.out 1
                                          have hfz74_2 := blk_frozen BK148.out 2
                                          have hfz74_3 := blk_frozen BK148.out 3
                                          go_wp2_with (first | ((with_reducible refine gate_callee (f := 11) rfl ?_); refine goesL_ (some 123) rfl rfl Try.func11 (by kernel_rfl) rfl #[.int .i64 ((rd_T24 l0 x3_1).f3)] rfl (by (try simp only [List.map_toArray, List.map_cons, List.map_nil]); first | done | rfl | (simp only [List.length_drop, List.length_take]; rfl)) ?_; (with_reducible refine (rights_Base.calls kj31 ((rd_T24 l0 x3_1).f3) t160 t161 _ A42.out).mono ?_); rintro e w75 ⟨rfl, hb⟩; refine ⟨_, rfl, ?_⟩; have n0_ := Aside0.mk (blk_below (g := gb148) (o := .cells #[.int .i64 ((rd_T24 l0 x3_1).f0), .int .i64 ((rd_T24 l0 x3_1).f1), .int .i64 ((rd_T24 l0 x3_1).f2), .int .i64 ((rd_T24 l0 x3_1).f3)] 24 (0, 0)) (by (with_reducible repeat (first | refine blk_drewN ?_ _ | refine blk_drew ?_ | refine blk_alloc ?_ _)); exact BK148.out) hb); have n1_ := Aside0.mk (below_step (by repeat (first | (with_reducible first | exact HB.out | apply below_alloc | apply pw_below_drewN | apply below_drew1 | refine below_set ?_ GE148.out) | exact HB.out)) hb); clear BK148; clear HB; have BK148 := n0_; have HB := n1_; clear n0_ n1_; (try clear hb); (try clear hb2); (try clear hk); (try clear hi); have hcz76_0 : w75.cell? ⟨gb148, 0, none⟩ = some (.int .i64 ((rd_T24 l0 x3_1).f0)) := (blk_cell BK148.out 0).trans rfl; have hcz76_1 : w75.cell? ⟨gb148, 1, none⟩ = some (.int .i64 ((rd_T24 l0 x3_1).f1)) := (blk_cell BK148.out 1).trans rfl; have hcz76_2 : w75.cell? ⟨gb148, 2, none⟩ = some (.int .i64 ((rd_T24 l0 x3_1).f2)) := (blk_cell BK148.out 2).trans rfl; have hcz76_3 : w75.cell? ⟨gb148, 3, none⟩ = some (.int .i64 ((rd_T24 l0 x3_1).f3)) := (blk_cell BK148.out 3).trans rfl; have hfz76_0 := blk_frozen BK148.out 0; have hfz76_1 := blk_frozen BK148.out 1; have hfz76_2 := blk_frozen BK148.out 2; have hfz76_3 := blk_frozen BK148.out 3) | ((with_reducible refine gate_callee (f := 12) rfl ?_); refine goesL_ (some 129) rfl rfl Try.func12 (by kernel_rfl) rfl #[.int .i64 ((rd_T24 l0 x3_1).f3)] rfl (by (try simp only [List.map_toArray, List.map_cons, List.map_nil]); first | done | rfl | (simp only [List.length_drop, List.length_take]; rfl)) ?_; (with_reducible refine (rights_Inherit.calls kj31 ((rd_T24 l0 x3_1).f3) t162 t163 _ A43.out).mono ?_); rintro e w77 ⟨rfl, hb⟩; refine ⟨_, rfl, ?_⟩; have n0_ := Aside0.mk (blk_below (g := gb148) (o := .cells #[.int .i64 ((rd_T24 l0 x3_1).f0), .int .i64 ((rd_T24 l0 x3_1).f1), .int .i64 ((rd_T24 l0 x3_1).f2), .int .i64 ((rd_T24 l0 x3_1).f3)] 24 (0, 0)) (by (with_reducible repeat (first | refine blk_drewN ?_ _ | refine blk_drew ?_ | refine blk_alloc ?_ _)); exact BK148.out) hb); have n1_ := Aside0.mk (below_step (by repeat (first | (with_reducible first | exact HB.out | apply below_alloc | apply pw_below_drewN | apply below_drew1 | refine below_set ?_ GE148.out) | exact HB.out)) hb); clear BK148; clear HB; have BK148 := n0_; have HB := n1_; clear n0_ n1_; (try clear hb); (try clear hb2); (try clear hk); (try clear hi); have hcz78_0 : w77.cell? ⟨gb148, 0, none⟩ = some (.int .i64 ((rd_T24 l0 x3_1).f0)) := (blk_cell BK148.out 0).trans rfl; have hcz78_1 : w77.cell? ⟨gb148, 1, none⟩ = some (.int .i64 ((rd_T24 l0 x3_1).f1)) := (blk_cell BK148.out 1).trans rfl; have hcz78_2 : w77.cell? ⟨gb148, 2, none⟩ = some (.int .i64 ((rd_T24 l0 x3_1).f2)) := (blk_cell BK148.out 2).trans rfl; have hcz78_3 : w77.cell? ⟨gb148, 3, none⟩ = some (.int .i64 ((rd_T24 l0 x3_1).f3)) := (blk_cell BK148.out 3).trans rfl; have hfz78_0 := blk_frozen BK148.out 0; have hfz78_1 := blk_frozen BK148.out 1; have hfz78_2 := blk_frozen BK148.out 2; have hfz78_3 := blk_frozen BK148.out 3) | ((with_reducible refine gate_callee (f := 13) rfl ?_); refine goesL_ (some 134) rfl rfl Try.func13 (by kernel_rfl) rfl #[.int .i64 ((rd_T24 l0 x3_1).f3)] rfl (by (try simp only [List.map_toArray, List.map_cons, List.map_nil]); first | done | rfl | (simp only [List.length_drop, List.length_take]; rfl)) ?_; (with_reducible refine (gangwayref17_Kind.calls ((rd_T24 l0 x3_1).f3) true _ A44.out).mono ?_); rintro e w' ⟨rfl, ⟨nd, rfl⟩⟩; refine ⟨_, rfl, ?_⟩) | ((with_reducible refine gate_callee (f := 8) rfl ?_); refine goesL_ (some 153) rfl rfl Try.func8 (by kernel_rfl) rfl #[.int .i64 t161] rfl (by (try simp only [List.map_toArray, List.map_cons, List.map_nil]); first | done | rfl | (simp only [List.length_drop, List.length_take]; rfl)) ?_; (with_reducible refine (gangwaylaw17_num.calls t161 t165 _ A46.out).mono ?_); rintro e w' ⟨rfl, ⟨nd, rfl⟩⟩; refine ⟨_, rfl, ?_⟩))
                                          go_ret
                                          exact ⟨by first | rfl | (simp [errW_none, errW_some] <;> rfl) | (simp [*, errW_none, errW_some] <;> rfl), by repeat (first | (with_reducible first | exact HB.out | apply below_alloc | apply pw_below_drewN | apply below_drew1 | refine below_set ?_ GE148.out) | exact HB.out)⟩
                                    · replace c45 := Bool.eq_false_iff.mpr c45
                                      subst c45
                                      have H1 : ((gangwaylaw17_num.f t161).bind fun t169 => (if t169 = 100 then ((gangwaylaw17_num.f t163).bind fun t170 => (if t170 = 100 then (if t160 = 0 then (if t162 = 0 then (gangwaylaw17_RightsExact.l0 kj31 l0 (wrap64 (x3_1 + 1))) else (some false)) else (some false)) else (some false))) else (some false))) = some r := by rw [if_neg (show ¬ (false = true) by decide)] at H; exact H
                                      clear H
                                      have H := H1
                                      clear H1
                                      replace H := Option.bind_eq_some_iff.mp H
                                      obtain ⟨t169, A790, H⟩ := H
                                      replace H : (if t169 = 100 then ((gangwaylaw17_num.f t163).bind fun t170 => (if t170 = 100 then (if t160 = 0 then (if t162 = 0 then (gangwaylaw17_RightsExact.l0 kj31 l0 (wrap64 (x3_1 + 1))) else (some false)) else (some false)) else (some false))) else (some false)) = some r := H
                                      have A79 := Aside0.mk A790
                                      clear A790
                                      by_cases c80 : t169 = 100
                                      · rw [if_pos c80] at H
                                        have c80b0 : (t169 == 100) = true := beq_iff_eq.mpr c80
                                        have c80b1 : (t169 != 100) = false := bne_eq_false_iff_eq.mpr c80
                                        clear c80
                                        replace H := Option.bind_eq_some_iff.mp H
                                        obtain ⟨t170, A810, H⟩ := H
                                        replace H : (if t170 = 100 then (if t160 = 0 then (if t162 = 0 then (gangwaylaw17_RightsExact.l0 kj31 l0 (wrap64 (x3_1 + 1))) else (some false)) else (some false)) else (some false)) = some r := H
                                        have A81 := Aside0.mk A810
                                        clear A810
                                        by_cases c82 : t170 = 100
                                        · rw [if_pos c82] at H
                                          have c82b0 : (t170 == 100) = true := beq_iff_eq.mpr c82
                                          have c82b1 : (t170 != 100) = false := bne_eq_false_iff_eq.mpr c82
                                          clear c82
                                          by_cases c83 : t160 = 0
                                          · rw [if_pos c83] at H
                                            have c83b0 : (t160 == 0) = true := beq_iff_eq.mpr c83
                                            have c83b1 : (t160 != 0) = false := bne_eq_false_iff_eq.mpr c83
                                            clear c83
                                            by_cases c84 : t162 = 0
                                            · as_aux_lemma =>
                                                rw [if_pos c84] at H
                                                have c84b0 : (t162 == 0) = true := beq_iff_eq.mpr c84
                                                have c84b1 : (t162 != 0) = false := bne_eq_false_iff_eq.mpr c84
                                                clear c84
                                                have H' := Aside0.mk H
                                                clear H
                                                have hcz85_0 : wc.cell? ⟨gb148, 0, none⟩ = some (.int .i64 ((rd_T24 l0 x3_1).f0)) := (blk_cell BK148.out 0).trans rfl
                                                have hcz85_1 : wc.cell? ⟨gb148, 1, none⟩ = some (.int .i64 ((rd_T24 l0 x3_1).f1)) := (blk_cell BK148.out 1).trans rfl
                                                have hcz85_2 : wc.cell? ⟨gb148, 2, none⟩ = some (.int .i64 ((rd_T24 l0 x3_1).f2)) := (blk_cell BK148.out 2).trans rfl
                                                have hcz85_3 : wc.cell? ⟨gb148, 3, none⟩ = some (.int .i64 ((rd_T24 l0 x3_1).f3)) := (blk_cell BK148.out 3).trans rfl
                                                have hfz85_0 := blk_frozen BK148.out 0
                                                have hfz85_1 := blk_frozen BK148.out 1
                                                have hfz85_2 := blk_frozen BK148.out 2
                                                have hfz85_3 := blk_frozen BK148.out 3
                                                go_wp2_with (first | ((with_reducible refine gate_callee (f := 11) rfl ?_); refine goesL_ (some 123) rfl rfl Try.func11 (by kernel_rfl) rfl #[.int .i64 ((rd_T24 l0 x3_1).f3)] rfl (by (try simp only [List.map_toArray, List.map_cons, List.map_nil]); first | done | rfl | (simp only [List.length_drop, List.length_take]; rfl)) ?_; (with_reducible refine (rights_Base.calls kj31 ((rd_T24 l0 x3_1).f3) t160 t161 _ A42.out).mono ?_); rintro e w86 ⟨rfl, hb⟩; refine ⟨_, rfl, ?_⟩; have n0_ := Aside0.mk (blk_below (g := gb148) (o := .cells #[.int .i64 ((rd_T24 l0 x3_1).f0), .int .i64 ((rd_T24 l0 x3_1).f1), .int .i64 ((rd_T24 l0 x3_1).f2), .int .i64 ((rd_T24 l0 x3_1).f3)] 24 (0, 0)) (by (with_reducible repeat (first | refine blk_drewN ?_ _ | refine blk_drew ?_ | refine blk_alloc ?_ _)); exact BK148.out) hb); have n1_ := Aside0.mk (below_step (by repeat (first | (with_reducible first | exact HB.out | apply below_alloc | apply pw_below_drewN | apply below_drew1 | refine below_set ?_ GE148.out) | exact HB.out)) hb); clear BK148; clear HB; have BK148 := n0_; have HB := n1_; clear n0_ n1_; (try clear hb); (try clear hb2); (try clear hk); (try clear hi); have hcz87_0 : w86.cell? ⟨gb148, 0, none⟩ = some (.int .i64 ((rd_T24 l0 x3_1).f0)) := (blk_cell BK148.out 0).trans rfl; have hcz87_1 : w86.cell? ⟨gb148, 1, none⟩ = some (.int .i64 ((rd_T24 l0 x3_1).f1)) := (blk_cell BK148.out 1).trans rfl; have hcz87_2 : w86.cell? ⟨gb148, 2, none⟩ = some (.int .i64 ((rd_T24 l0 x3_1).f2)) := (blk_cell BK148.out 2).trans rfl; have hcz87_3 : w86.cell? ⟨gb148, 3, none⟩ = some (.int .i64 ((rd_T24 l0 x3_1).f3)) := (blk_cell BK148.out 3).trans rfl; have hfz87_0 := blk_frozen BK148.out 0; have hfz87_1 := blk_frozen BK148.out 1; have hfz87_2 := blk_frozen BK148.out 2; have hfz87_3 := blk_frozen BK148.out 3) | ((with_reducible refine gate_callee (f := 12) rfl ?_); refine goesL_ (some 129) rfl rfl Try.func12 (by kernel_rfl) rfl #[.int .i64 ((rd_T24 l0 x3_1).f3)] rfl (by (try simp only [List.map_toArray, List.map_cons, List.map_nil]); first | done | rfl | (simp only [List.length_drop, List.length_take]; rfl)) ?_; (with_reducible refine (rights_Inherit.calls kj31 ((rd_T24 l0 x3_1).f3) t162 t163 _ A43.out).mono ?_); rintro e w88 ⟨rfl, hb⟩; refine ⟨_, rfl, ?_⟩; have n0_ := Aside0.mk (blk_below (g := gb148) (o := .cells #[.int .i64 ((rd_T24 l0 x3_1).f0), .int .i64 ((rd_T24 l0 x3_1).f1), .int .i64 ((rd_T24 l0 x3_1).f2), .int .i64 ((rd_T24 l0 x3_1).f3)] 24 (0, 0)) (by (with_reducible repeat (first | refine blk_drewN ?_ _ | refine blk_drew ?_ | refine blk_alloc ?_ _)); exact BK148.out) hb); have n1_ := Aside0.mk (below_step (by repeat (first | (with_reducible first | exact HB.out | apply below_alloc | apply pw_below_drewN | apply below_drew1 | refine below_set ?_ GE148.out) | exact HB.out)) hb); clear BK148; clear HB; have BK148 := n0_; have HB := n1_; clear n0_ n1_; (try clear hb); (try clear hb2); (try clear hk); (try clear hi); have hcz89_0 : w88.cell? ⟨gb148, 0, none⟩ = some (.int .i64 ((rd_T24 l0 x3_1).f0)) := (blk_cell BK148.out 0).trans rfl; have hcz89_1 : w88.cell? ⟨gb148, 1, none⟩ = some (.int .i64 ((rd_T24 l0 x3_1).f1)) := (blk_cell BK148.out 1).trans rfl; have hcz89_2 : w88.cell? ⟨gb148, 2, none⟩ = some (.int .i64 ((rd_T24 l0 x3_1).f2)) := (blk_cell BK148.out 2).trans rfl; have hcz89_3 : w88.cell? ⟨gb148, 3, none⟩ = some (.int .i64 ((rd_T24 l0 x3_1).f3)) := (blk_cell BK148.out 3).trans rfl; have hfz89_0 := blk_frozen BK148.out 0; have hfz89_1 := blk_frozen BK148.out 1; have hfz89_2 := blk_frozen BK148.out 2; have hfz89_3 := blk_frozen BK148.out 3) | ((with_reducible refine gate_callee (f := 13) rfl ?_); refine goesL_ (some 134) rfl rfl Try.func13 (by kernel_rfl) rfl #[.int .i64 ((rd_T24 l0 x3_1).f3)] rfl (by (try simp only [List.map_toArray, List.map_cons, List.map_nil]); first | done | rfl | (simp only [List.length_drop, List.length_take]; rfl)) ?_; (with_reducible refine (gangwayref17_Kind.calls ((rd_T24 l0 x3_1).f3) false _ A44.out).mono ?_); rintro e w' ⟨rfl, ⟨nd, rfl⟩⟩; refine ⟨_, rfl, ?_⟩) | ((with_reducible refine gate_callee (f := 8) rfl ?_); refine goesL_ (some 137) rfl rfl Try.func8 (by kernel_rfl) rfl #[.int .i64 t161] rfl (by (try simp only [List.map_toArray, List.map_cons, List.map_nil]); first | done | rfl | (simp only [List.length_drop, List.length_take]; rfl)) ?_; (with_reducible refine (gangwaylaw17_num.calls t161 t169 _ A79.out).mono ?_); rintro e w' ⟨rfl, ⟨nd, rfl⟩⟩; refine ⟨_, rfl, ?_⟩) | (go_at_call 8; (with_reducible refine (gangwaylaw17_num.calls t163 t170 _ A81.out).mono ?_); rintro e w' ⟨rfl, ⟨nd, rfl⟩⟩))
                                                go_roundg kj31
                                                case measure => have := HK1.out; have := HJ1.out; have := HJ7.out; have := HJ13.out; have := HJ19.out; have := HJ31.out; omega
                                                case rel => exact ⟨(wrap64 (x3_1 + 1)), (by first | rfl | (simp; done) | (simp [*]; done)), H', ⟨by have := HK1.out; have := HJ1.out; have := HJ7.out; have := HJ13.out; have := HJ19.out; have := HJ31.out; omega⟩, ⟨by repeat (first | (with_reducible first | exact HB.out | apply below_alloc | apply pw_below_drewN | apply below_drew1 | refine below_set ?_ GE148.out) | exact HB.out)⟩⟩
                                            · as_aux_lemma =>
                                                rw [if_neg c84] at H
                                                have c84b0 : (t162 == 0) = false := beq_eq_false_iff_ne.mpr c84
                                                have c84b1 : (t162 != 0) = true := bne_iff_ne.mpr c84
                                                obtain rfl := Option.some.inj H
                                                have hcz90_0 : wc.cell? ⟨gb148, 0, none⟩ = some (.int .i64 ((rd_T24 l0 x3_1).f0)) := (blk_cell BK148.out 0).trans rfl
                                                have hcz90_1 : wc.cell? ⟨gb148, 1, none⟩ = some (.int .i64 ((rd_T24 l0 x3_1).f1)) := (blk_cell BK148.out 1).trans rfl
                                                have hcz90_2 : wc.cell? ⟨gb148, 2, none⟩ = some (.int .i64 ((rd_T24 l0 x3_1).f2)) := (blk_cell BK148.out 2).trans rfl
                                                have hcz90_3 : wc.cell? ⟨gb148, 3, none⟩ = some (.int .i64 ((rd_T24 l0 x3_1).f3)) := (blk_cell BK148.out 3).trans rfl
                                                have hfz90_0 := blk_frozen BK148.out 0
                                                have hfz90_1 := blk_frozen BK148.out 1
                                                have hfz90_2 := blk_frozen BK148.out 2
                                                have hfz90_3 := blk_frozen BK148.out 3
                                                go_wp2_with (first | ((with_reducible refine gate_callee (f := 11) rfl ?_); refine goesL_ (some 123) rfl rfl Try.func11 (by kernel_rfl) rfl #[.int .i64 ((rd_T24 l0 x3_1).f3)] rfl (by (try simp only [List.map_toArray, List.map_cons, List.map_nil]); first | done | rfl | (simp only [List.length_drop, List.length_take]; rfl)) ?_; (with_reducible refine (rights_Base.calls kj31 ((rd_T24 l0 x3_1).f3) t160 t161 _ A42.out).mono ?_); rintro e w91 ⟨rfl, hb⟩; refine ⟨_, rfl, ?_⟩; have n0_ := Aside0.mk (blk_below (g := gb148) (o := .cells #[.int .i64 ((rd_T24 l0 x3_1).f0), .int .i64 ((rd_T24 l0 x3_1).f1), .int .i64 ((rd_T24 l0 x3_1).f2), .int .i64 ((rd_T24 l0 x3_1).f3)] 24 (0, 0)) (by (with_reducible repeat (first | refine blk_drewN ?_ _ | refine blk_drew ?_ | refine blk_alloc ?_ _)); exact BK148.out) hb); have n1_ := Aside0.mk (below_step (by repeat (first | (with_reducible first | exact HB.out | apply below_alloc | apply pw_below_drewN | apply below_drew1 | refine below_set ?_ GE148.out) | exact HB.out)) hb); clear BK148; clear HB; have BK148 := n0_; have HB := n1_; clear n0_ n1_; (try clear hb); (try clear hb2); (try clear hk); (try clear hi); have hcz92_0 : w91.cell? ⟨gb148, 0, none⟩ = some (.int .i64 ((rd_T24 l0 x3_1).f0)) := (blk_cell BK148.out 0).trans rfl; have hcz92_1 : w91.cell? ⟨gb148, 1, none⟩ = some (.int .i64 ((rd_T24 l0 x3_1).f1)) := (blk_cell BK148.out 1).trans rfl; have hcz92_2 : w91.cell? ⟨gb148, 2, none⟩ = some (.int .i64 ((rd_T24 l0 x3_1).f2)) := (blk_cell BK148.out 2).trans rfl; have hcz92_3 : w91.cell? ⟨gb148, 3, none⟩ = some (.int .i64 ((rd_T24 l0 x3_1).f3)) := (blk_cell BK148.out 3).trans rfl; have hfz92_0 := blk_frozen BK148.out 0; have hfz92_1 := blk_frozen BK148.out 1; have hfz92_2 := blk_frozen BK148.out 2; have hfz92_3 := blk_frozen BK148.out 3) | ((with_reducible refine gate_callee (f := 12) rfl ?_); refine goesL_ (some 129) rfl rfl Try.func12 (by kernel_rfl) rfl #[.int .i64 ((rd_T24 l0 x3_1).f3)] rfl (by (try simp only [List.map_toArray, List.map_cons, List.map_nil]); first | done | rfl | (simp only [List.length_drop, List.length_take]; rfl)) ?_; (with_reducible refine (rights_Inherit.calls kj31 ((rd_T24 l0 x3_1).f3) t162 t163 _ A43.out).mono ?_); rintro e w93 ⟨rfl, hb⟩; refine ⟨_, rfl, ?_⟩; have n0_ := Aside0.mk (blk_below (g := gb148) (o := .cells #[.int .i64 ((rd_T24 l0 x3_1).f0), .int .i64 ((rd_T24 l0 x3_1).f1), .int .i64 ((rd_T24 l0 x3_1).f2), .int .i64 ((rd_T24 l0 x3_1).f3)] 24 (0, 0)) (by (with_reducible repeat (first | refine blk_drewN ?_ _ | refine blk_drew ?_ | refine blk_alloc ?_ _)); exact BK148.out) hb); have n1_ := Aside0.mk (below_step (by repeat (first | (with_reducible first | exact HB.out | apply below_alloc | apply pw_below_drewN | apply below_drew1 | refine below_set ?_ GE148.out) | exact HB.out)) hb); clear BK148; clear HB; have BK148 := n0_; have HB := n1_; clear n0_ n1_; (try clear hb); (try clear hb2); (try clear hk); (try clear hi); have hcz94_0 : w93.cell? ⟨gb148, 0, none⟩ = some (.int .i64 ((rd_T24 l0 x3_1).f0)) := (blk_cell BK148.out 0).trans rfl; have hcz94_1 : w93.cell? ⟨gb148, 1, none⟩ = some (.int .i64 ((rd_T24 l0 x3_1).f1)) := (blk_cell BK148.out 1).trans rfl; have hcz94_2 : w93.cell? ⟨gb148, 2, none⟩ = some (.int .i64 ((rd_T24 l0 x3_1).f2)) := (blk_cell BK148.out 2).trans rfl; have hcz94_3 : w93.cell? ⟨gb148, 3, none⟩ = some (.int .i64 ((rd_T24 l0 x3_1).f3)) := (blk_cell BK148.out 3).trans rfl; have hfz94_0 := blk_frozen BK148.out 0; have hfz94_1 := blk_frozen BK148.out 1; have hfz94_2 := blk_frozen BK148.out 2; have hfz94_3 := blk_frozen BK148.out 3) | ((with_reducible refine gate_callee (f := 13) rfl ?_); refine goesL_ (some 134) rfl rfl Try.func13 (by kernel_rfl) rfl #[.int .i64 ((rd_T24 l0 x3_1).f3)] rfl (by (try simp only [List.map_toArray, List.map_cons, List.map_nil]); first | done | rfl | (simp only [List.length_drop, List.length_take]; rfl)) ?_; (with_reducible refine (gangwayref17_Kind.calls ((rd_T24 l0 x3_1).f3) false _ A44.out).mono ?_); rintro e w' ⟨rfl, ⟨nd, rfl⟩⟩; refine ⟨_, rfl, ?_⟩) | ((with_reducible refine gate_callee (f := 8) rfl ?_); refine goesL_ (some 137) rfl rfl Try.func8 (by kernel_rfl) rfl #[.int .i64 t161] rfl (by (try simp only [List.map_toArray, List.map_cons, List.map_nil]); first | done | rfl | (simp only [List.length_drop, List.length_take]; rfl)) ?_; (with_reducible refine (gangwaylaw17_num.calls t161 t169 _ A79.out).mono ?_); rintro e w' ⟨rfl, ⟨nd, rfl⟩⟩; refine ⟨_, rfl, ?_⟩) | (go_at_call 8; (with_reducible refine (gangwaylaw17_num.calls t163 t170 _ A81.out).mono ?_); rintro e w' ⟨rfl, ⟨nd, rfl⟩⟩))
                                                go_ret
                                                exact ⟨by first | rfl | (simp [errW_none, errW_some] <;> rfl) | (simp [*, errW_none, errW_some] <;> rfl), by repeat (first | (with_reducible first | exact HB.out | apply below_alloc | apply pw_below_drewN | apply below_drew1 | refine below_set ?_ GE148.out) | exact HB.out)⟩
                                          · as_aux_lemma =>
                                              rw [if_neg c83] at H
                                              have c83b0 : (t160 == 0) = false := beq_eq_false_iff_ne.mpr c83
                                              have c83b1 : (t160 != 0) = true := bne_iff_ne.mpr c83
                                              obtain rfl := Option.some.inj H
                                              have hcz95_0 : wc.cell? ⟨gb148, 0, none⟩ = some (.int .i64 ((rd_T24 l0 x3_1).f0)) := (blk_cell BK148.out 0).trans rfl
                                              have hcz95_1 : wc.cell? ⟨gb148, 1, none⟩ = some (.int .i64 ((rd_T24 l0 x3_1).f1)) := (blk_cell BK148.out 1).trans rfl
                                              have hcz95_2 : wc.cell? ⟨gb148, 2, none⟩ = some (.int .i64 ((rd_T24 l0 x3_1).f2)) := (blk_cell BK148.out 2).trans rfl
                                              have hcz95_3 : wc.cell? ⟨gb148, 3, none⟩ = some (.int .i64 ((rd_T24 l0 x3_1).f3)) := (blk_cell BK148.out 3).trans rfl
                                              have hfz95_0 := blk_frozen BK148.out 0
                                              have hfz95_1 := blk_frozen BK148.out 1
                                              have hfz95_2 := blk_frozen BK148.out 2
                                              have hfz95_3 := blk_frozen BK148.out 3
                                              go_wp2_with (first | ((with_reducible refine gate_callee (f := 11) rfl ?_); refine goesL_ (some 123) rfl rfl Try.func11 (by kernel_rfl) rfl #[.int .i64 ((rd_T24 l0 x3_1).f3)] rfl (by (try simp only [List.map_toArray, List.map_cons, List.map_nil]); first | done | rfl | (simp only [List.length_drop, List.length_take]; rfl)) ?_; (with_reducible refine (rights_Base.calls kj31 ((rd_T24 l0 x3_1).f3) t160 t161 _ A42.out).mono ?_); rintro e w96 ⟨rfl, hb⟩; refine ⟨_, rfl, ?_⟩; have n0_ := Aside0.mk (blk_below (g := gb148) (o := .cells #[.int .i64 ((rd_T24 l0 x3_1).f0), .int .i64 ((rd_T24 l0 x3_1).f1), .int .i64 ((rd_T24 l0 x3_1).f2), .int .i64 ((rd_T24 l0 x3_1).f3)] 24 (0, 0)) (by (with_reducible repeat (first | refine blk_drewN ?_ _ | refine blk_drew ?_ | refine blk_alloc ?_ _)); exact BK148.out) hb); have n1_ := Aside0.mk (below_step (by repeat (first | (with_reducible first | exact HB.out | apply below_alloc | apply pw_below_drewN | apply below_drew1 | refine below_set ?_ GE148.out) | exact HB.out)) hb); clear BK148; clear HB; have BK148 := n0_; have HB := n1_; clear n0_ n1_; (try clear hb); (try clear hb2); (try clear hk); (try clear hi); have hcz97_0 : w96.cell? ⟨gb148, 0, none⟩ = some (.int .i64 ((rd_T24 l0 x3_1).f0)) := (blk_cell BK148.out 0).trans rfl; have hcz97_1 : w96.cell? ⟨gb148, 1, none⟩ = some (.int .i64 ((rd_T24 l0 x3_1).f1)) := (blk_cell BK148.out 1).trans rfl; have hcz97_2 : w96.cell? ⟨gb148, 2, none⟩ = some (.int .i64 ((rd_T24 l0 x3_1).f2)) := (blk_cell BK148.out 2).trans rfl; have hcz97_3 : w96.cell? ⟨gb148, 3, none⟩ = some (.int .i64 ((rd_T24 l0 x3_1).f3)) := (blk_cell BK148.out 3).trans rfl; have hfz97_0 := blk_frozen BK148.out 0; have hfz97_1 := blk_frozen BK148.out 1; have hfz97_2 := blk_frozen BK148.out 2; have hfz97_3 := blk_frozen BK148.out 3) | ((with_reducible refine gate_callee (f := 12) rfl ?_); refine goesL_ (some 129) rfl rfl Try.func12 (by kernel_rfl) rfl #[.int .i64 ((rd_T24 l0 x3_1).f3)] rfl (by (try simp only [List.map_toArray, List.map_cons, List.map_nil]); first | done | rfl | (simp only [List.length_drop, List.length_take]; rfl)) ?_; (with_reducible refine (rights_Inherit.calls kj31 ((rd_T24 l0 x3_1).f3) t162 t163 _ A43.out).mono ?_); rintro e w98 ⟨rfl, hb⟩; refine ⟨_, rfl, ?_⟩; have n0_ := Aside0.mk (blk_below (g := gb148) (o := .cells #[.int .i64 ((rd_T24 l0 x3_1).f0), .int .i64 ((rd_T24 l0 x3_1).f1), .int .i64 ((rd_T24 l0 x3_1).f2), .int .i64 ((rd_T24 l0 x3_1).f3)] 24 (0, 0)) (by (with_reducible repeat (first | refine blk_drewN ?_ _ | refine blk_drew ?_ | refine blk_alloc ?_ _)); exact BK148.out) hb); have n1_ := Aside0.mk (below_step (by repeat (first | (with_reducible first | exact HB.out | apply below_alloc | apply pw_below_drewN | apply below_drew1 | refine below_set ?_ GE148.out) | exact HB.out)) hb); clear BK148; clear HB; have BK148 := n0_; have HB := n1_; clear n0_ n1_; (try clear hb); (try clear hb2); (try clear hk); (try clear hi); have hcz99_0 : w98.cell? ⟨gb148, 0, none⟩ = some (.int .i64 ((rd_T24 l0 x3_1).f0)) := (blk_cell BK148.out 0).trans rfl; have hcz99_1 : w98.cell? ⟨gb148, 1, none⟩ = some (.int .i64 ((rd_T24 l0 x3_1).f1)) := (blk_cell BK148.out 1).trans rfl; have hcz99_2 : w98.cell? ⟨gb148, 2, none⟩ = some (.int .i64 ((rd_T24 l0 x3_1).f2)) := (blk_cell BK148.out 2).trans rfl; have hcz99_3 : w98.cell? ⟨gb148, 3, none⟩ = some (.int .i64 ((rd_T24 l0 x3_1).f3)) := (blk_cell BK148.out 3).trans rfl; have hfz99_0 := blk_frozen BK148.out 0; have hfz99_1 := blk_frozen BK148.out 1; have hfz99_2 := blk_frozen BK148.out 2; have hfz99_3 := blk_frozen BK148.out 3) | ((with_reducible refine gate_callee (f := 13) rfl ?_); refine goesL_ (some 134) rfl rfl Try.func13 (by kernel_rfl) rfl #[.int .i64 ((rd_T24 l0 x3_1).f3)] rfl (by (try simp only [List.map_toArray, List.map_cons, List.map_nil]); first | done | rfl | (simp only [List.length_drop, List.length_take]; rfl)) ?_; (with_reducible refine (gangwayref17_Kind.calls ((rd_T24 l0 x3_1).f3) false _ A44.out).mono ?_); rintro e w' ⟨rfl, ⟨nd, rfl⟩⟩; refine ⟨_, rfl, ?_⟩) | ((with_reducible refine gate_callee (f := 8) rfl ?_); refine goesL_ (some 137) rfl rfl Try.func8 (by kernel_rfl) rfl #[.int .i64 t161] rfl (by (try simp only [List.map_toArray, List.map_cons, List.map_nil]); first | done | rfl | (simp only [List.length_drop, List.length_take]; rfl)) ?_; (with_reducible refine (gangwaylaw17_num.calls t161 t169 _ A79.out).mono ?_); rintro e w' ⟨rfl, ⟨nd, rfl⟩⟩; refine ⟨_, rfl, ?_⟩) | (go_at_call 8; (with_reducible refine (gangwaylaw17_num.calls t163 t170 _ A81.out).mono ?_); rintro e w' ⟨rfl, ⟨nd, rfl⟩⟩))
                                              go_ret
                                              exact ⟨by first | rfl | (simp [errW_none, errW_some] <;> rfl) | (simp [*, errW_none, errW_some] <;> rfl), by repeat (first | (with_reducible first | exact HB.out | apply below_alloc | apply pw_below_drewN | apply below_drew1 | refine below_set ?_ GE148.out) | exact HB.out)⟩
                                        · as_aux_lemma =>
                                            rw [if_neg c82] at H
                                            have c82b0 : (t170 == 100) = false := beq_eq_false_iff_ne.mpr c82
                                            have c82b1 : (t170 != 100) = true := bne_iff_ne.mpr c82
                                            obtain rfl := Option.some.inj H
                                            have hcz100_0 : wc.cell? ⟨gb148, 0, none⟩ = some (.int .i64 ((rd_T24 l0 x3_1).f0)) := (blk_cell BK148.out 0).trans rfl
                                            have hcz100_1 : wc.cell? ⟨gb148, 1, none⟩ = some (.int .i64 ((rd_T24 l0 x3_1).f1)) := (blk_cell BK148.out 1).trans rfl
                                            have hcz100_2 : wc.cell? ⟨gb148, 2, none⟩ = some (.int .i64 ((rd_T24 l0 x3_1).f2)) := (blk_cell BK148.out 2).trans rfl
                                            have hcz100_3 : wc.cell? ⟨gb148, 3, none⟩ = some (.int .i64 ((rd_T24 l0 x3_1).f3)) := (blk_cell BK148.out 3).trans rfl
                                            have hfz100_0 := blk_frozen BK148.out 0
                                            have hfz100_1 := blk_frozen BK148.out 1
                                            have hfz100_2 := blk_frozen BK148.out 2
                                            have hfz100_3 := blk_frozen BK148.out 3
                                            go_wp2_with (first | ((with_reducible refine gate_callee (f := 11) rfl ?_); refine goesL_ (some 123) rfl rfl Try.func11 (by kernel_rfl) rfl #[.int .i64 ((rd_T24 l0 x3_1).f3)] rfl (by (try simp only [List.map_toArray, List.map_cons, List.map_nil]); first | done | rfl | (simp only [List.length_drop, List.length_take]; rfl)) ?_; (with_reducible refine (rights_Base.calls kj31 ((rd_T24 l0 x3_1).f3) t160 t161 _ A42.out).mono ?_); rintro e w101 ⟨rfl, hb⟩; refine ⟨_, rfl, ?_⟩; have n0_ := Aside0.mk (blk_below (g := gb148) (o := .cells #[.int .i64 ((rd_T24 l0 x3_1).f0), .int .i64 ((rd_T24 l0 x3_1).f1), .int .i64 ((rd_T24 l0 x3_1).f2), .int .i64 ((rd_T24 l0 x3_1).f3)] 24 (0, 0)) (by (with_reducible repeat (first | refine blk_drewN ?_ _ | refine blk_drew ?_ | refine blk_alloc ?_ _)); exact BK148.out) hb); have n1_ := Aside0.mk (below_step (by repeat (first | (with_reducible first | exact HB.out | apply below_alloc | apply pw_below_drewN | apply below_drew1 | refine below_set ?_ GE148.out) | exact HB.out)) hb); clear BK148; clear HB; have BK148 := n0_; have HB := n1_; clear n0_ n1_; (try clear hb); (try clear hb2); (try clear hk); (try clear hi); have hcz102_0 : w101.cell? ⟨gb148, 0, none⟩ = some (.int .i64 ((rd_T24 l0 x3_1).f0)) := (blk_cell BK148.out 0).trans rfl; have hcz102_1 : w101.cell? ⟨gb148, 1, none⟩ = some (.int .i64 ((rd_T24 l0 x3_1).f1)) := (blk_cell BK148.out 1).trans rfl; have hcz102_2 : w101.cell? ⟨gb148, 2, none⟩ = some (.int .i64 ((rd_T24 l0 x3_1).f2)) := (blk_cell BK148.out 2).trans rfl; have hcz102_3 : w101.cell? ⟨gb148, 3, none⟩ = some (.int .i64 ((rd_T24 l0 x3_1).f3)) := (blk_cell BK148.out 3).trans rfl; have hfz102_0 := blk_frozen BK148.out 0; have hfz102_1 := blk_frozen BK148.out 1; have hfz102_2 := blk_frozen BK148.out 2; have hfz102_3 := blk_frozen BK148.out 3) | ((with_reducible refine gate_callee (f := 12) rfl ?_); refine goesL_ (some 129) rfl rfl Try.func12 (by kernel_rfl) rfl #[.int .i64 ((rd_T24 l0 x3_1).f3)] rfl (by (try simp only [List.map_toArray, List.map_cons, List.map_nil]); first | done | rfl | (simp only [List.length_drop, List.length_take]; rfl)) ?_; (with_reducible refine (rights_Inherit.calls kj31 ((rd_T24 l0 x3_1).f3) t162 t163 _ A43.out).mono ?_); rintro e w103 ⟨rfl, hb⟩; refine ⟨_, rfl, ?_⟩; have n0_ := Aside0.mk (blk_below (g := gb148) (o := .cells #[.int .i64 ((rd_T24 l0 x3_1).f0), .int .i64 ((rd_T24 l0 x3_1).f1), .int .i64 ((rd_T24 l0 x3_1).f2), .int .i64 ((rd_T24 l0 x3_1).f3)] 24 (0, 0)) (by (with_reducible repeat (first | refine blk_drewN ?_ _ | refine blk_drew ?_ | refine blk_alloc ?_ _)); exact BK148.out) hb); have n1_ := Aside0.mk (below_step (by repeat (first | (with_reducible first | exact HB.out | apply below_alloc | apply pw_below_drewN | apply below_drew1 | refine below_set ?_ GE148.out) | exact HB.out)) hb); clear BK148; clear HB; have BK148 := n0_; have HB := n1_; clear n0_ n1_; (try clear hb); (try clear hb2); (try clear hk); (try clear hi); have hcz104_0 : w103.cell? ⟨gb148, 0, none⟩ = some (.int .i64 ((rd_T24 l0 x3_1).f0)) := (blk_cell BK148.out 0).trans rfl; have hcz104_1 : w103.cell? ⟨gb148, 1, none⟩ = some (.int .i64 ((rd_T24 l0 x3_1).f1)) := (blk_cell BK148.out 1).trans rfl; have hcz104_2 : w103.cell? ⟨gb148, 2, none⟩ = some (.int .i64 ((rd_T24 l0 x3_1).f2)) := (blk_cell BK148.out 2).trans rfl; have hcz104_3 : w103.cell? ⟨gb148, 3, none⟩ = some (.int .i64 ((rd_T24 l0 x3_1).f3)) := (blk_cell BK148.out 3).trans rfl; have hfz104_0 := blk_frozen BK148.out 0; have hfz104_1 := blk_frozen BK148.out 1; have hfz104_2 := blk_frozen BK148.out 2; have hfz104_3 := blk_frozen BK148.out 3) | ((with_reducible refine gate_callee (f := 13) rfl ?_); refine goesL_ (some 134) rfl rfl Try.func13 (by kernel_rfl) rfl #[.int .i64 ((rd_T24 l0 x3_1).f3)] rfl (by (try simp only [List.map_toArray, List.map_cons, List.map_nil]); first | done | rfl | (simp only [List.length_drop, List.length_take]; rfl)) ?_; (with_reducible refine (gangwayref17_Kind.calls ((rd_T24 l0 x3_1).f3) false _ A44.out).mono ?_); rintro e w' ⟨rfl, ⟨nd, rfl⟩⟩; refine ⟨_, rfl, ?_⟩) | ((with_reducible refine gate_callee (f := 8) rfl ?_); refine goesL_ (some 137) rfl rfl Try.func8 (by kernel_rfl) rfl #[.int .i64 t161] rfl (by (try simp only [List.map_toArray, List.map_cons, List.map_nil]); first | done | rfl | (simp only [List.length_drop, List.length_take]; rfl)) ?_; (with_reducible refine (gangwaylaw17_num.calls t161 t169 _ A79.out).mono ?_); rintro e w' ⟨rfl, ⟨nd, rfl⟩⟩; refine ⟨_, rfl, ?_⟩) | (go_at_call 8; (with_reducible refine (gangwaylaw17_num.calls t163 t170 _ A81.out).mono ?_); rintro e w' ⟨rfl, ⟨nd, rfl⟩⟩))
                                            go_ret
                                            exact ⟨by first | rfl | (simp [errW_none, errW_some] <;> rfl) | (simp [*, errW_none, errW_some] <;> rfl), by repeat (first | (with_reducible first | exact HB.out | apply below_alloc | apply pw_below_drewN | apply below_drew1 | refine below_set ?_ GE148.out) | exact HB.out)⟩
                                      · as_aux_lemma =>
                                          rw [if_neg c80] at H
                                          have c80b0 : (t169 == 100) = false := beq_eq_false_iff_ne.mpr c80
                                          have c80b1 : (t169 != 100) = true := bne_iff_ne.mpr c80
                                          obtain rfl := Option.some.inj H
                                          have hcz105_0 : wc.cell? ⟨gb148, 0, none⟩ = some (.int .i64 ((rd_T24 l0 x3_1).f0)) := (blk_cell BK148.out 0).trans rfl
                                          have hcz105_1 : wc.cell? ⟨gb148, 1, none⟩ = some (.int .i64 ((rd_T24 l0 x3_1).f1)) := (blk_cell BK148.out 1).trans rfl
                                          have hcz105_2 : wc.cell? ⟨gb148, 2, none⟩ = some (.int .i64 ((rd_T24 l0 x3_1).f2)) := (blk_cell BK148.out 2).trans rfl
                                          have hcz105_3 : wc.cell? ⟨gb148, 3, none⟩ = some (.int .i64 ((rd_T24 l0 x3_1).f3)) := (blk_cell BK148.out 3).trans rfl
                                          have hfz105_0 := blk_frozen BK148.out 0
                                          have hfz105_1 := blk_frozen BK148.out 1
                                          have hfz105_2 := blk_frozen BK148.out 2
                                          have hfz105_3 := blk_frozen BK148.out 3
                                          go_wp2_with (first | ((with_reducible refine gate_callee (f := 11) rfl ?_); refine goesL_ (some 123) rfl rfl Try.func11 (by kernel_rfl) rfl #[.int .i64 ((rd_T24 l0 x3_1).f3)] rfl (by (try simp only [List.map_toArray, List.map_cons, List.map_nil]); first | done | rfl | (simp only [List.length_drop, List.length_take]; rfl)) ?_; (with_reducible refine (rights_Base.calls kj31 ((rd_T24 l0 x3_1).f3) t160 t161 _ A42.out).mono ?_); rintro e w106 ⟨rfl, hb⟩; refine ⟨_, rfl, ?_⟩; have n0_ := Aside0.mk (blk_below (g := gb148) (o := .cells #[.int .i64 ((rd_T24 l0 x3_1).f0), .int .i64 ((rd_T24 l0 x3_1).f1), .int .i64 ((rd_T24 l0 x3_1).f2), .int .i64 ((rd_T24 l0 x3_1).f3)] 24 (0, 0)) (by (with_reducible repeat (first | refine blk_drewN ?_ _ | refine blk_drew ?_ | refine blk_alloc ?_ _)); exact BK148.out) hb); have n1_ := Aside0.mk (below_step (by repeat (first | (with_reducible first | exact HB.out | apply below_alloc | apply pw_below_drewN | apply below_drew1 | refine below_set ?_ GE148.out) | exact HB.out)) hb); clear BK148; clear HB; have BK148 := n0_; have HB := n1_; clear n0_ n1_; (try clear hb); (try clear hb2); (try clear hk); (try clear hi); have hcz107_0 : w106.cell? ⟨gb148, 0, none⟩ = some (.int .i64 ((rd_T24 l0 x3_1).f0)) := (blk_cell BK148.out 0).trans rfl; have hcz107_1 : w106.cell? ⟨gb148, 1, none⟩ = some (.int .i64 ((rd_T24 l0 x3_1).f1)) := (blk_cell BK148.out 1).trans rfl; have hcz107_2 : w106.cell? ⟨gb148, 2, none⟩ = some (.int .i64 ((rd_T24 l0 x3_1).f2)) := (blk_cell BK148.out 2).trans rfl; have hcz107_3 : w106.cell? ⟨gb148, 3, none⟩ = some (.int .i64 ((rd_T24 l0 x3_1).f3)) := (blk_cell BK148.out 3).trans rfl; have hfz107_0 := blk_frozen BK148.out 0; have hfz107_1 := blk_frozen BK148.out 1; have hfz107_2 := blk_frozen BK148.out 2; have hfz107_3 := blk_frozen BK148.out 3) | ((with_reducible refine gate_callee (f := 12) rfl ?_); refine goesL_ (some 129) rfl rfl Try.func12 (by kernel_rfl) rfl #[.int .i64 ((rd_T24 l0 x3_1).f3)] rfl (by (try simp only [List.map_toArray, List.map_cons, List.map_nil]); first | done | rfl | (simp only [List.length_drop, List.length_take]; rfl)) ?_; (with_reducible refine (rights_Inherit.calls kj31 ((rd_T24 l0 x3_1).f3) t162 t163 _ A43.out).mono ?_); rintro e w108 ⟨rfl, hb⟩; refine ⟨_, rfl, ?_⟩; have n0_ := Aside0.mk (blk_below (g := gb148) (o := .cells #[.int .i64 ((rd_T24 l0 x3_1).f0), .int .i64 ((rd_T24 l0 x3_1).f1), .int .i64 ((rd_T24 l0 x3_1).f2), .int .i64 ((rd_T24 l0 x3_1).f3)] 24 (0, 0)) (by (with_reducible repeat (first | refine blk_drewN ?_ _ | refine blk_drew ?_ | refine blk_alloc ?_ _)); exact BK148.out) hb); have n1_ := Aside0.mk (below_step (by repeat (first | (with_reducible first | exact HB.out | apply below_alloc | apply pw_below_drewN | apply below_drew1 | refine below_set ?_ GE148.out) | exact HB.out)) hb); clear BK148; clear HB; have BK148 := n0_; have HB := n1_; clear n0_ n1_; (try clear hb); (try clear hb2); (try clear hk); (try clear hi); have hcz109_0 : w108.cell? ⟨gb148, 0, none⟩ = some (.int .i64 ((rd_T24 l0 x3_1).f0)) := (blk_cell BK148.out 0).trans rfl; have hcz109_1 : w108.cell? ⟨gb148, 1, none⟩ = some (.int .i64 ((rd_T24 l0 x3_1).f1)) := (blk_cell BK148.out 1).trans rfl; have hcz109_2 : w108.cell? ⟨gb148, 2, none⟩ = some (.int .i64 ((rd_T24 l0 x3_1).f2)) := (blk_cell BK148.out 2).trans rfl; have hcz109_3 : w108.cell? ⟨gb148, 3, none⟩ = some (.int .i64 ((rd_T24 l0 x3_1).f3)) := (blk_cell BK148.out 3).trans rfl; have hfz109_0 := blk_frozen BK148.out 0; have hfz109_1 := blk_frozen BK148.out 1; have hfz109_2 := blk_frozen BK148.out 2; have hfz109_3 := blk_frozen BK148.out 3) | ((with_reducible refine gate_callee (f := 13) rfl ?_); refine goesL_ (some 134) rfl rfl Try.func13 (by kernel_rfl) rfl #[.int .i64 ((rd_T24 l0 x3_1).f3)] rfl (by (try simp only [List.map_toArray, List.map_cons, List.map_nil]); first | done | rfl | (simp only [List.length_drop, List.length_take]; rfl)) ?_; (with_reducible refine (gangwayref17_Kind.calls ((rd_T24 l0 x3_1).f3) false _ A44.out).mono ?_); rintro e w' ⟨rfl, ⟨nd, rfl⟩⟩; refine ⟨_, rfl, ?_⟩) | ((with_reducible refine gate_callee (f := 8) rfl ?_); refine goesL_ (some 137) rfl rfl Try.func8 (by kernel_rfl) rfl #[.int .i64 t161] rfl (by (try simp only [List.map_toArray, List.map_cons, List.map_nil]); first | done | rfl | (simp only [List.length_drop, List.length_take]; rfl)) ?_; (with_reducible refine (gangwaylaw17_num.calls t161 t169 _ A79.out).mono ?_); rintro e w' ⟨rfl, ⟨nd, rfl⟩⟩; refine ⟨_, rfl, ?_⟩))
                                          go_ret
                                          exact ⟨by first | rfl | (simp [errW_none, errW_some] <;> rfl) | (simp [*, errW_none, errW_some] <;> rfl), by repeat (first | (with_reducible first | exact HB.out | apply below_alloc | apply pw_below_drewN | apply below_drew1 | refine below_set ?_ GE148.out) | exact HB.out)⟩
              · rw [if_neg c6] at H
                exact absurd H (by simp)
            · rw [if_neg c5] at H
              exact absurd H (by simp)
          · as_aux_lemma =>
              replace c4 := Bool.eq_false_iff.mpr c4
              subst c4
              have H1 : ((gangwaylaw17_wakes.f kj1).bind fun t146 => (some t146)) = some r := by rw [if_neg (show ¬ (false = true) by decide)] at H; exact H
              clear H
              have H := H1
              clear H1
              replace H := Option.bind_eq_some_iff.mp H
              obtain ⟨t146, A1100, H⟩ := H
              replace H : (some t146) = some r := H
              have A110 := Aside0.mk A1100
              clear A1100
              obtain rfl := Option.some.inj H
              go_wp2_with (first | ((with_reducible refine gate_callee (f := 16) rfl ?_); refine goesL_ (some 174) rfl rfl Try.func16 (by kernel_rfl) rfl #[] rfl (by (try simp only [List.map_toArray, List.map_cons, List.map_nil]); first | done | rfl | (simp only [List.length_drop, List.length_take]; rfl)) ?_; (with_reducible refine (gangwaylaw17_wakes.calls kj1  t146 _ A110.out).mono ?_); rintro e w111 ⟨rfl, hb⟩; refine ⟨_, rfl, ?_⟩; have n0_ := Aside0.mk (below_step (by repeat (first | (with_reducible first | exact HB.out | apply below_alloc | apply pw_below_drewN | apply below_drew1) | exact HB.out)) hb); clear HB; have HB := n0_; clear n0_; (try clear hb); (try clear hb2); (try clear hk); (try clear hi)))
              go_ret
              exact ⟨by first | rfl | (simp [errW_none, errW_some] <;> rfl) | (simp [*, errW_none, errW_some] <;> rfl), by repeat (first | (with_reducible first | exact HB.out | apply below_alloc | apply pw_below_drewN | apply below_drew1) | exact HB.out)⟩
  
  end Go.Proofs.Ytbmfnmlpjgancaa.PRightsExact
